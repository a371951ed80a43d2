import PyProof.Rows.All
import Wide.All
import OpenK.AllK
import Wide.FinOn
import HandS.ForMost
import HandS.TupAny
import HandS.Conv
import HandS.Deep
import HandS.Style
import HandS.IsInst
import HandS.SetFor
import HandS.Zip
import HandS.DictComp
import HandS.SortInts
import HandS.TryOnly
import PySem.Challenge.RW_meetingdays_k35_judges_of_people
set_option Elab.async false
set_option linter.all false
set_option maxRecDepth 100000
set_option maxHeartbeats 4000000
/-! PL1: pure data over the hand layer: values as trees, owned cells, judgements by functions. -/
namespace PL
open PySem PySem.Spec L2
set_option autoImplicit false

inductive D where
  | non | bl (b : Bool) | int (i : Int) | str (x : Str) | tup (xs : List D) | lst (xs : List D)
  | dic (kvs : List (Key × D)) | dicT (kvs : List (List Key × D)) | scr (xs : List Int)
noncomputable instance : DecidableEq D := fun _ _ => Classical.propDecidable _
inductive E where
  | d (x : D) | own (c : Nat) | deal (row : List Int) (c : Nat) (t : Int)
inductive O where
  | lst (xs : List D) | dic (kvs : List (Key × D)) | dicT (kvs : List (List Key × D)) | frz (x : D)
abbrev Store := List O
abbrev Rho := List (Option E)

mutual
inductive Rep (K : PySem.W.Frag) (F : Hp) : V → D → Prop
  | non : Rep K F .non .non
  | bl {b : Bool} : Rep K F (.bl b) (.bl b)
  | int {i : Int} : Rep K F (.int i) (.int i)
  | str {x : Str} : Rep K F (.str x) (.str x)
  | tup {a : Addr} {vs : List V} {ds : List D} : F a = some (.tup vs) → vs.length ≤ sizeLine → Reps K F vs ds → Rep K F (.ref a) (.tup ds)
  | lst {a : Addr} {vs : List V} {ds : List D} : F a = some (.lst vs) → vs.length ≤ sizeLine → Reps K F vs ds → Rep K F (.ref a) (.lst ds)
  | dic {a : Addr} {vs : List (Key × V)} {ds : List (Key × D)} : F a = some (.dK vs) → KReps K F vs ds → Rep K F (.ref a) (.dic ds)
  | dicT {a : Addr} {vs : List (List Key × V)} {ds : List (List Key × D)} : F a = some (.dT vs) → TReps K F vs ds → Rep K F (.ref a) (.dicT ds)
  | scr {a : Addr} {ns : List Int} : SqL K F a (ns.map V.int) → ns.length ≤ sizeLine → Rep K F (.ref a) (.scr ns)
inductive Reps (K : PySem.W.Frag) (F : Hp) : List V → List D → Prop
  | nil : Reps K F [] []
  | cons {v : V} {d : D} {vs : List V} {ds : List D} : Rep K F v d → Reps K F vs ds → Reps K F (v :: vs) (d :: ds)
inductive KReps (K : PySem.W.Frag) (F : Hp) : List (Key × V) → List (Key × D) → Prop
  | nil : KReps K F [] []
  | cons {k : Key} {v : V} {d : D} {vs : List (Key × V)} {ds : List (Key × D)} : Rep K F v d → KReps K F vs ds → KReps K F ((k, v) :: vs) ((k, d) :: ds)
inductive TReps (K : PySem.W.Frag) (F : Hp) : List (List Key × V) → List (List Key × D) → Prop
  | nil : TReps K F [] []
  | cons {k : List Key} {v : V} {d : D} {vs : List (List Key × V)} {ds : List (List Key × D)} : Rep K F v d → TReps K F vs ds → TReps K F ((k, v) :: vs) ((k, d) :: ds)
end

/-- the frozen part lies in the heap; its dicts may be locked -/
def isDct : HO → Bool
  | .dK _ => true
  | .dT _ => true
  | _ => false
def FSub (F H : Hp) : Prop := ∀ a o, F a = some o → H a = some o ∨ (isDct o = true ∧ ∃ od, H a = some (.frz od o))

section
variable {K : PySem.W.Frag} {F F' H H' : Hp}
theorem SqT.mono {a : Addr} {vs : List V} (h : Same F F') (r : SqT K F a vs) : SqT K F' a vs := by
  rcases r with (r | ⟨o, r⟩) | r
  · exact .inl (.inl (h _ _ r))
  · exact .inl (.inr ⟨o, h _ _ r⟩)
  · exact .inr r
theorem SqL.mono {a : Addr} {vs : List V} (h : Same F F') (r : SqL K F a vs) : SqL K F' a vs := h.seq r
mutual
theorem Rep.mono (h : Same F F') : ∀ {v : V} {d : D}, Rep K F v d → Rep K F' v d
  | _, _, .non => .non
  | _, _, .bl => .bl
  | _, _, .int => .int
  | _, _, .str => .str
  | _, _, .tup a z b => .tup (h _ _ a) z (Reps.mono h b)
  | _, _, .lst a z b => .lst (h _ _ a) z (Reps.mono h b)
  | _, _, .dic a b => .dic (h _ _ a) (KReps.mono h b)
  | _, _, .dicT a b => .dicT (h _ _ a) (TReps.mono h b)
  | _, _, .scr a z => .scr (SqL.mono h a) z
theorem Reps.mono (h : Same F F') : ∀ {v : List V} {d : List D}, Reps K F v d → Reps K F' v d
  | _, _, .nil => .nil
  | _, _, .cons a b => .cons (Rep.mono h a) (Reps.mono h b)
theorem KReps.mono (h : Same F F') : ∀ {v : List (Key × V)} {d : List (Key × D)}, KReps K F v d → KReps K F' v d
  | _, _, .nil => .nil
  | _, _, .cons a b => .cons (Rep.mono h a) (KReps.mono h b)
theorem TReps.mono (h : Same F F') : ∀ {v : List (List Key × V)} {d : List (List Key × D)}, TReps K F v d → TReps K F' v d
  | _, _, .nil => .nil
  | _, _, .cons a b => .cons (Rep.mono h a) (TReps.mono h b)
end
theorem Reps.length : ∀ {vs : List V} {ds : List D}, Reps K F vs ds → vs.length = ds.length
  | _, _, .nil => rfl
  | _, _, .cons _ b => congrArg (· + 1) (Reps.length b)
theorem Reps.get : ∀ {vs : List V} {ds : List D} {i : Nat} {d : D}, Reps K F vs ds → ds[i]? = some d → ∃ v, vs[i]? = some v ∧ Rep K F v d
  | _, _, _, _, .nil, e => by simp at e
  | _, _, 0, _, .cons a _, e => by simp at e; subst e; exact ⟨_, rfl, a⟩
  | _, _, i + 1, _, .cons _ b, e => by
    obtain ⟨v, h1, h2⟩ := Reps.get (i := i) b (by simpa using e)
    exact ⟨v, by simpa using h1, h2⟩
theorem Reps.append : ∀ {vs ws : List V} {ds es : List D}, Reps K F vs ds → Reps K F ws es → Reps K F (vs ++ ws) (ds ++ es)
  | _, _, _, _, .nil, h => h
  | _, _, _, _, .cons a b, h => .cons a (Reps.append b h)
theorem Reps.take : ∀ {vs : List V} {ds : List D} (n : Nat), Reps K F vs ds → Reps K F (vs.take n) (ds.take n)
  | _, _, 0, _ => .nil
  | _, _, _ + 1, .nil => .nil
  | _, _, n + 1, .cons a b => .cons a (Reps.take n b)
theorem Reps.drop : ∀ {vs : List V} {ds : List D} (n : Nat), Reps K F vs ds → Reps K F (vs.drop n) (ds.drop n)
  | _, _, 0, r => r
  | _, _, _ + 1, .nil => .nil
  | _, _, n + 1, .cons _ b => Reps.drop n b
theorem Reps.set {v : V} {d : D} (r : Rep K F v d) : ∀ {vs : List V} {ds : List D} (i : Nat), Reps K F vs ds → Reps K F (vs.set i v) (ds.set i d)
  | _, _, _, .nil => .nil
  | _, _, 0, .cons _ b => .cons r b
  | _, _, i + 1, .cons a b => .cons a (Reps.set r i b)
theorem Reps.rev : ∀ {vs : List V} {ds : List D}, Reps K F vs ds → Reps K F vs.reverse ds.reverse
  | _, _, .nil => .nil
  | _, _, .cons a b => by
    rw [List.reverse_cons, List.reverse_cons]
    exact (Reps.rev b).append (.cons a .nil)
theorem Reps.ints : ∀ {vs : List V} {ns : List Int}, Reps K F vs (ns.map D.int) → vs = ns.map V.int
  | _, [], .nil => rfl
  | _, n :: ns, .cons a b => by
    cases a
    rw [List.map_cons, Reps.ints b]
theorem Reps.of_ints : ∀ (ns : List Int), Reps K F (ns.map V.int) (ns.map D.int)
  | [] => .nil
  | n :: ns => .cons .int (Reps.of_ints ns)
theorem Reps.bls : ∀ {vs : List V} {ns : List Bool}, Reps K F vs (ns.map D.bl) → vs = ns.map V.bl
  | _, [], .nil => rfl
  | _, n :: ns, .cons a b => by
    cases a
    rw [List.map_cons, Reps.bls b]
end

/-! ### cells -/
def CellOk (K : PySem.W.Frag) (H F : Hp) (a : Addr) : O → Prop
  | .lst ds => F a = none ∧ ds.length ≤ sizeLine ∧ ∃ vs, H a = some (.lst vs) ∧ Reps K F vs ds
  | .dic ds => F a = none ∧ ∃ vs, H a = some (.dK vs) ∧ KReps K F vs ds
  | .dicT ds => F a = none ∧ ∃ vs, H a = some (.dT vs) ∧ TReps K F vs ds
  | .frz x => Rep K F (.ref a) x
/-- the cells' addresses; what else stands and is to stand (lists in the making) -/
structure Cs where
  c : List Addr
  g : List (Addr × HO)
structure HeapOk (K : PySem.W.Frag) (H F : Hp) (as : Cs) (m : Store) : Prop where
  sub : FSub F H
  len : as.c.length = m.length
  nd : as.c.Nodup
  there : ∀ a ∈ as.c, H a ≠ none
  cell : ∀ (c : Nat) (a : Addr) (o : O), as.c[c]? = some a → m[c]? = some o → CellOk K H F a o
  prot : ∀ p ∈ as.g, H p.1 = some p.2 ∧ F p.1 = none ∧ p.1 ∉ as.c
  pnd : (as.g.map (·.1)).Nodup
/-- a value of the frame -/
inductive RepE (K : PySem.W.Frag) (F : Hp) (as : Cs) : V → E → Prop
  | d {v : V} {x : D} : Rep K F v x → RepE K F as v (.d x)
  | own {a : Addr} {c : Nat} : as.c[c]? = some a → RepE K F as (.ref a) (.own c)
  | deal {a r ca : Addr} {row : List Int} {c : Nat} {t : Int} : F a = some (.lst [.ref r, .ref ca, .int t]) → F r = some (.lst (row.map V.int)) → row.length ≤ sizeLine → as.c[c]? = some ca → RepE K F as (.ref a) (.deal row c t)
inductive RepEs (K : PySem.W.Frag) (F : Hp) (as : Cs) : List V → List E → Prop
  | nil : RepEs K F as [] []
  | cons {v : V} {e : E} {vs : List V} {es : List E} : RepE K F as v e → RepEs K F as vs es → RepEs K F as (v :: vs) (e :: es)
structure EnvOk (K : PySem.W.Frag) (F : Hp) (as : Cs) (σ : L2.St) (ρ : Rho) : Prop where
  len : σ.length = ρ.length
  get : ∀ (i : Nat) (e : E), ρ[i]? = some (some e) → ∃ v, σ[i]? = some (some v) ∧ RepE K F as v e
def Ext (F F' : Hp) (as as' : Cs) : Prop := Same F F' ∧ as.c <+: as'.c ∧ as'.g = as.g

section
variable {K : PySem.W.Frag} {F F' F2 H H' H2 : Hp} {as as' as2 : Cs} {m m' : Store} {v : V} {e : E} {σ : L2.St} {ρ : Rho}
theorem Ext.refl : Ext F F as as := ⟨Same.refl F, List.prefix_refl _, rfl⟩
theorem Ext.trans (a : Ext F F' as as') (b : Ext F' F2 as' as2) : Ext F F2 as as2 := ⟨a.1.trans b.1, a.2.1.trans b.2.1, b.2.2.trans a.2.2⟩
theorem pre_get {α : Type} {l l' : List α} {i : Nat} {x : α} (h : l <+: l') (e : l[i]? = some x) : l'[i]? = some x := by
  obtain ⟨t, rfl⟩ := h
  rw [List.getElem?_append_left (List.getElem?_eq_some_iff.mp e).1]
  exact e
theorem RepE.ext (h : Ext F F' as as') : RepE K F as v e → RepE K F' as' v e
  | .d r => .d (r.mono h.1)
  | .own r => .own (pre_get h.2.1 r)
  | .deal a b z c => .deal (h.1 _ _ a) (h.1 _ _ b) z (pre_get h.2.1 c)
theorem RepEs.ext (h : Ext F F' as as') : ∀ {vs : List V} {es : List E}, RepEs K F as vs es → RepEs K F' as' vs es
  | _, _, .nil => .nil
  | _, _, .cons a b => .cons (a.ext h) (b.ext h)
theorem EnvOk.ext (h : Ext F F' as as') (x : EnvOk K F as σ ρ) : EnvOk K F' as' σ ρ := ⟨x.len, fun i e q => let ⟨v, a, b⟩ := x.get i e q; ⟨v, a, b.ext h⟩⟩
theorem EnvOk.set (x : EnvOk K F as σ ρ) (i : Nat) (r : RepE K F as v e) : EnvOk K F as (σ.set i (some v)) (ρ.set i (some e)) := by
  refine ⟨by rw [List.length_set, List.length_set]; exact x.len, fun j e' q => ?_⟩
  by_cases hj : i = j
  · subst hj
    by_cases hl : i < ρ.length
    · rw [List.getElem?_set_self hl] at q
      cases q
      exact ⟨v, by rw [List.getElem?_set_self (by rw [x.len]; exact hl)], r⟩
    · rw [List.getElem?_eq_none (by rw [List.length_set]; omega)] at q
      cases q
  · rw [List.getElem?_set_ne hj] at q
    obtain ⟨w, a, b⟩ := x.get j e' q
    exact ⟨w, by rw [List.getElem?_set_ne hj]; exact a, b⟩
def wipeE (ρ : Rho) : List Nat → Rho
  | [] => ρ
  | v :: vs => (wipeE ρ vs).set v none
theorem EnvOk.wipe (x : EnvOk K F as σ ρ) : ∀ vs : List Nat, EnvOk K F as (wipe σ vs) (wipeE ρ vs)
  | [] => x
  | i :: vs => by
    have y := EnvOk.wipe x vs
    refine ⟨by show (List.set _ _ _).length = (List.set _ _ _).length; rw [List.length_set, List.length_set]; exact y.len, fun j e' q => ?_⟩
    have q : ((wipeE ρ vs).set i none)[j]? = some (some e') := q
    by_cases hj : i = j
    · subst hj
      by_cases hl : i < (wipeE ρ vs).length
      · rw [List.getElem?_set_self hl] at q
        cases q
      · rw [List.getElem?_eq_none (by rw [List.length_set]; omega)] at q
        cases q
    · rw [List.getElem?_set_ne hj] at q
      obtain ⟨w, a, b⟩ := y.get j e' q
      exact ⟨w, by show ((L2.wipe σ vs).set i none)[j]? = _; rw [List.getElem?_set_ne hj]; exact a, b⟩

/-- new objects may have come, what stood stands -/
structure Grow (H F H' F' : Hp) : Prop where
  old : ∀ a, H a ≠ none → H' a = H a ∧ F' a = F a
  sub : FSub F' H'
theorem Grow.refl (s : FSub F H) : Grow H F H F := ⟨fun _ _ => ⟨rfl, rfl⟩, s⟩
theorem Grow.trans {H1 F1 : Hp} (a : Grow H F H' F') (b : Grow H' F' H1 F1) : Grow H F H1 F1 := ⟨fun x q => by
  obtain ⟨a1, a2⟩ := a.old x q
  obtain ⟨b1, b2⟩ := b.old x (by rw [a1]; exact q)
  exact ⟨b1.trans a1, b2.trans a2⟩, b.sub⟩
theorem FSub.there (s : FSub F H) {a : Addr} {o : HO} (h : F a = some o) : H a ≠ none := by
  rcases s a o h with q | ⟨_, od, q⟩ <;> rw [q] <;> simp
theorem FSub.free (s : FSub F H) {a : Addr} (h : H a = none) : F a = none := by
  cases q : F a with
  | none => rfl
  | some o => exact absurd h (s.there q)
theorem Grow.same (s : FSub F H) (g : Grow H F H' F') : Same F F' := fun a o h => by rw [(g.old a (s.there h)).2]; exact h
theorem Grow.laid {p : Addr} {o : HO} (s : FSub F H) (h : H p = none) : Grow H F (upd H p o) (upd F p o) := by
  refine ⟨fun a q => ?_, fun a u q => ?_⟩
  · have n : a ≠ p := fun z => q (by rw [z]; exact h)
    exact ⟨upd_ne n, upd_ne n⟩
  · by_cases n : a = p
    · subst n
      rw [upd_same] at q ⊢
      exact .inl q
    · rw [upd_ne n] at q ⊢
      exact s a u q
theorem HeapOk.grow (x : HeapOk K H F as m) (g : Grow H F H' F') : HeapOk K H' F' as m := by
  have sm := g.same x.sub
  refine ⟨g.sub, x.len, x.nd, fun a q => by rw [(g.old a (x.there a q)).1]; exact x.there a q, fun c a o q1 q2 => ?_, fun p hp => ?_, x.pnd⟩
  case refine_2 =>
    obtain ⟨p1, p2, p3⟩ := x.prot p hp
    obtain ⟨e1, e2⟩ := g.old p.1 (by rw [p1]; simp)
    exact ⟨e1.trans p1, e2.trans p2, p3⟩
  have ha := x.there a (List.mem_of_getElem? q1)
  obtain ⟨e1, e2⟩ := g.old a ha
  have y := x.cell c a o q1 q2
  cases o with
  | lst ds => obtain ⟨y1, z, vs, y2, y3⟩ := y; exact ⟨e2.trans y1, z, vs, e1.trans y2, y3.mono sm⟩
  | dic ds => obtain ⟨y1, vs, y2, y3⟩ := y; exact ⟨e2.trans y1, vs, e1.trans y2, y3.mono sm⟩
  | dicT ds => obtain ⟨y1, vs, y2, y3⟩ := y; exact ⟨e2.trans y1, vs, e1.trans y2, y3.mono sm⟩
  | frz d => exact Rep.mono sm y
theorem HeapOk.ext (x : HeapOk K H F as m) (g : Grow H F H' F') : Ext F F' as as := ⟨g.same x.sub, List.prefix_refl _, rfl⟩
end
end PL
/-! PL2: expressions. -/
namespace PL
open PySem PySem.Spec L2
set_option autoImplicit false

abbrev Ex := Rho → Store → Option (E × Store)
abbrev Tx := Rho → Store → Option (Bool × Store)
abbrev Ax := Rho → Store → Option (List E × Store)

def tE (K : PySem.W.Frag) (f : Ex) : TE := fun σ H Q => ∃ ρ m F as e m', EnvOk K F as σ ρ ∧ HeapOk K H F as m ∧ f ρ m = some (e, m') ∧
  ∀ v H' F' as', Ext F F' as as' → HeapOk K H' F' as' m' → RepE K F' as' v e → Q v H'
def tT (K : PySem.W.Frag) (f : Tx) : TT := fun σ H Q => ∃ ρ m F as b m', EnvOk K F as σ ρ ∧ HeapOk K H F as m ∧ f ρ m = some (b, m') ∧
  ∀ H' F' as', Ext F F' as as' → HeapOk K H' F' as' m' → Q b H'
def tA (K : PySem.W.Frag) (f : Ax) : TA := fun σ H Q => ∃ ρ m F as es m', EnvOk K F as σ ρ ∧ HeapOk K H F as m ∧ f ρ m = some (es, m') ∧
  ∀ vs H' F' as', Ext F F' as as' → HeapOk K H' F' as' m' → RepEs K F' as' vs es → Q vs H'

section
variable {X : Cx} {e : Expr} {es : List Expr} {te te' : TE} {tt tt' : TT} {ta ta' : TA} {op : CmpOp} {a b : Expr}
theorem PE_imp (h : PE X e te) (i : ∀ σ H Q, te' σ H Q → te σ H Q) : PE X e te' := ⟨fun pins s σ H Q I q => h.run pins s σ H Q I (i σ H Q q)⟩
theorem PT_imp (h : PT X e tt) (i : ∀ σ H Q, tt' σ H Q → tt σ H Q) : PT X e tt' := ⟨fun pins s σ H Q I q => h.run pins s σ H Q I (i σ H Q q)⟩
theorem PW_imp (h : PW X e tt) (i : ∀ σ H Q, tt' σ H Q → tt σ H Q) : PW X e tt' := ⟨fun w pins s σ H Q I q => h.run w pins s σ H Q I (i σ H Q q)⟩
theorem PA_imp (h : PA X es ta) (i : ∀ σ H Q, ta' σ H Q → ta σ H Q) : PA X es ta' := ⟨fun p pins s σ H Q I q => h.run p pins s σ H Q I (i σ H Q q)⟩
end

/-! ### what is known of a value's data -/
def look (m : Store) : E → Option D
  | .d x => some x
  | .own c => match m[c]? with
    | some (.lst xs) => some (.lst xs)
    | some (.dic k) => some (.dic k)
    | some (.dicT k) => some (.dicT k)
    | some (.frz x) => some x
    | none => none
  | .deal _ _ _ => none
inductive RepL (K : PySem.W.Frag) (H F : Hp) : V → D → Prop
  | of {v : V} {d : D} : Rep K F v d → RepL K H F v d
  | lst {a : Addr} {vs : List V} {ds : List D} : H a = some (.lst vs) → vs.length ≤ sizeLine → Reps K F vs ds → RepL K H F (.ref a) (.lst ds)
  | dic {a : Addr} {vs : List (Key × V)} {ds : List (Key × D)} : H a = some (.dK vs) → KReps K F vs ds → RepL K H F (.ref a) (.dic ds)
  | dicT {a : Addr} {vs : List (List Key × V)} {ds : List (List Key × D)} : H a = some (.dT vs) → TReps K F vs ds → RepL K H F (.ref a) (.dicT ds)
section
variable {K : PySem.W.Frag} {F F' H H' : Hp} {as as' : Cs} {m m' : Store} {v : V} {e : E}
theorem look_rep {d : D} (x : HeapOk K H F as m) (r : RepE K F as v e) (l : look m e = some d) : RepL K H F v d := by
  cases r with
  | d r => cases l; exact .of r
  | @own a c r =>
    unfold look at l
    cases q : m[c]? with
    | none => simp only [q] at l; cases l
    | some o =>
      have y := x.cell c a o r q
      simp only [q] at l
      cases o with
      | lst ds =>
        cases l
        obtain ⟨_, z, vs, y2, y3⟩ := y
        exact .lst y2 (by rw [y3.length]; exact z) y3
      | dic ds => cases l; obtain ⟨_, vs, y2, y3⟩ := y; exact .dic y2 y3
      | dicT ds => cases l; obtain ⟨_, vs, y2, y3⟩ := y; exact .dicT y2 y3
      | frz d => cases l; exact .of y
  | deal => cases l
theorem RepL.int {i : Int} (r : RepL K H F v (.int i)) : v = .int i := by cases r with | of r => cases r; rfl
theorem RepL.bl {i : Bool} (r : RepL K H F v (.bl i)) : v = .bl i := by cases r with | of r => cases r; rfl
theorem RepL.str {i : Str} (r : RepL K H F v (.str i)) : v = .str i := by cases r with | of r => cases r; rfl
theorem RepL.non (r : RepL K H F v .non) : v = .non := by cases r with | of r => cases r; rfl
theorem RepL.tup {ds : List D} (s : FSub F H) (r : RepL K H F v (.tup ds)) : ∃ a vs, v = .ref a ∧ F a = some (.tup vs) ∧ H a = some (.tup vs) ∧ vs.length ≤ sizeLine ∧ Reps K F vs ds := by
  cases r with
  | of r =>
    cases r with
    | @tup a vs _ h1 h2 h3 =>
      refine ⟨a, vs, rfl, h1, ?_, h2, h3⟩
      rcases s _ _ h1 with q | ⟨q, _⟩
      · exact q
      · cases q
theorem RepL.list {ds : List D} (s : FSub F H) (r : RepL K H F v (.lst ds)) : ∃ a vs, v = .ref a ∧ H a = some (.lst vs) ∧ vs.length ≤ sizeLine ∧ Reps K F vs ds := by
  cases r with
  | of r =>
    cases r with
    | @lst a vs _ h1 h2 h3 =>
      refine ⟨a, vs, rfl, ?_, h2, h3⟩
      rcases s _ _ h1 with q | ⟨q, _⟩
      · exact q
      · cases q
  | @lst a vs _ h1 h2 h3 => exact ⟨a, vs, rfl, h1, h2, h3⟩
theorem RepL.dict {ds : List (Key × D)} (s : FSub F H) (r : RepL K H F v (.dic ds)) : ∃ a vs, v = .ref a ∧ Rd H a (.dK vs) ∧ KReps K F vs ds := by
  cases r with
  | of r =>
    cases r with
    | @dic a vs _ h1 h2 =>
      refine ⟨a, vs, rfl, ?_, h2⟩
      rcases s _ _ h1 with q | ⟨_, od, q⟩
      · exact .inl q
      · exact .inr ⟨od, q⟩
  | @dic a vs _ h1 h2 => exact ⟨a, vs, rfl, .inl h1, h2⟩
theorem RepL.dictT {ds : List (List Key × D)} (s : FSub F H) (r : RepL K H F v (.dicT ds)) : ∃ a vs, v = .ref a ∧ Rd H a (.dT vs) ∧ TReps K F vs ds := by
  cases r with
  | of r =>
    cases r with
    | @dicT a vs _ h1 h2 =>
      refine ⟨a, vs, rfl, ?_, h2⟩
      rcases s _ _ h1 with q | ⟨_, od, q⟩
      · exact .inl q
      · exact .inr ⟨od, q⟩
  | @dicT a vs _ h1 h2 => exact ⟨a, vs, rfl, .inl h1, h2⟩
theorem FSub.sqL (s : FSub F H) {a : Addr} {vs : List V} (r : SqL K F a vs) : SqL K H a vs := by
  rcases r with (r | ⟨o, r⟩) | r
  · rcases s _ _ r with q | ⟨q, _⟩
    · exact .inl (.inl q)
    · cases q
  · rcases s _ _ r with q | ⟨q, _⟩
    · exact .inl (.inr ⟨o, q⟩)
    · cases q
  · exact .inr r
theorem RepL.scr {ns : List Int} (s : FSub F H) (r : RepL K H F v (.scr ns)) : ∃ a, v = .ref a ∧ SqL K H a (ns.map V.int) := by
  cases r with
  | of r =>
    cases r with
    | @scr a _ h1 h2 => exact ⟨a, rfl, s.sqL h1⟩
end

/-! ### names, constants -/
def eV (i : Nat) : Ex := fun ρ m => match ρ[i]? with
  | some (some e) => some (e, m)
  | _ => none
def eC (d : D) : Ex := fun _ m => some (.d d, m)
section
variable {X : Cx} {pos : Pos}
theorem r_var {i : Nat} {e : Expr} (h : PE X e (tVar i)) : PE X e (tE X.K (eV i)) := by
  refine PE_imp h fun σ H Q h => ?_
  obtain ⟨ρ, m, F, as, e, m', env, hp, hf, q⟩ := h
  unfold eV at hf
  cases w : ρ[i]? with
  | none => simp only [w] at hf; cases hf
  | some o =>
    cases o with
    | none => simp only [w] at hf; cases hf
    | some e' =>
      simp only [w] at hf
      cases hf
      obtain ⟨v, e1, r⟩ := env.get i e w
      exact ⟨v, e1, q v H F as Ext.refl hp r⟩
theorem r_const {e : Expr} {v : V} {d : D} (h : PE X e (tC v)) (r : ∀ F : Hp, Rep X.K F v d) : PE X e (tE X.K (eC d)) := by
  refine PE_imp h fun σ H Q h => ?_
  obtain ⟨ρ, m, F, as, e, m', env, hp, hf, q⟩ := h
  cases hf
  exact q v H F as Ext.refl hp (.d (r F))
theorem r_int {i : Int} {j : Nat} : PE X (.Constant (.int i) j pos) (tE X.K (eC (.int i))) := r_const pe_int fun _ => .int
theorem r_bl {i : Bool} {j : Nat} : PE X (.Constant (.bool i) j pos) (tE X.K (eC (.bl i))) := r_const pe_bl fun _ => .bl
theorem r_non {j : Nat} : PE X (.Constant .none j pos) (tE X.K (eC .non)) := r_const pe_non fun _ => .non
theorem r_str {x : Str} {j : Nat} : PE X (.Constant (.str x) j pos) (tE X.K (eC (.str x))) := r_const pe_str fun _ => .str
end

/-! ### two values -/
abbrev G2 := E → E → Store → Option (E × Store)
def eBin (g : G2) (fa fb : Ex) : Ex := fun ρ m => (fa ρ m).bind fun p => (fb ρ p.2).bind fun q => g p.1 q.1 q.2
def R2Ok (K : PySem.W.Frag) (r : R2) (g : G2) : Prop := ∀ x y H F as m ex ey e m' Q, HeapOk K H F as m → RepE K F as x ex → RepE K F as y ey → g ex ey m = some (e, m') →
  (∀ v H' F' as', Ext F F' as as' → HeapOk K H' F' as' m' → RepE K F' as' v e → Q v H') → r x y H Q
theorem bind2 {α β : Type} {x : Option α} {f : α → Option β} {b : β} (h : x.bind f = some b) : ∃ a, x = some a ∧ f a = some b := Option.bind_eq_some_iff.mp h
section
variable {X : Cx} {pos : Pos} {a b : Expr} {fa fb : Ex} {r : R2} {g : G2}
theorem op_read (hg : R2Ok X.K r g) : ∀ σ H Q, tE X.K (eBin g fa fb) σ H Q → tOp r (tE X.K fa) (tE X.K fb) σ H Q := by
  intro σ H Q h
  obtain ⟨ρ, m, F, as, e, m', env, hp, hf, q⟩ := h
  obtain ⟨⟨ex, m1⟩, h1, hf⟩ := bind2 hf
  obtain ⟨⟨ey, m2⟩, h2, hf⟩ := bind2 hf
  refine ⟨ρ, m, F, as, ex, m1, env, hp, h1, fun v1 H1 F1 as1 x1 hp1 r1 => ?_⟩
  refine ⟨ρ, m1, F1, as1, ey, m2, env.ext x1, hp1, h2, fun v2 H2 F2 as2 x2 hp2 r2 => ?_⟩
  exact hg v1 v2 H2 F2 as2 m2 ex ey e m' Q hp2 (r1.ext x2) r2 hf fun v H' F' as' x3 hp3 r3 => q v H' F' as' (x1.trans (x2.trans x3)) hp3 r3
theorem r_op {op : Operator} (ho : OpR X (binaryOp op) r) (hg : R2Ok X.K r g) (ha : PE X a (tE X.K fa)) (hb : PE X b (tE X.K fb)) : PE X (.BinOp a op b pos) (tE X.K (eBin g fa fb)) :=
  PE_imp (pe_op ho ha hb) (op_read hg)
theorem r_cmp {op : CmpOp} (ho : OpR X (compareOp op) r) (hg : R2Ok X.K r g) (ha : PE X a (tE X.K fa)) (hb : PE X b (tE X.K fb)) (hm : behindInMarks op b = false) : PE X (.Compare a [op] [b] pos) (tE X.K (eBin g fa fb)) :=
  PE_imp (pe_cmpR ho ha hb hm) (op_read hg)
theorem r_ix (hr : IxR X r) (hg : R2Ok X.K r g) (ha : PE X a (tE X.K fa)) (hb : PE X b (tE X.K fb)) (hs : PlainIx b) : PE X (.Subscript a b pos) (tE X.K (eBin g fa fb)) :=
  PE_imp (pe_ix hr ha hb hs) (op_read hg)
/-- a test by an expression that gives a bool -/
def tOf (f : Ex) : Tx := fun ρ m => match f ρ m with
  | some (.d (.bl b), m') => some (b, m')
  | _ => none
theorem test_read {f : Ex} {t : TE} (i : ∀ σ H Q, tE X.K f σ H Q → t σ H Q) : ∀ σ H Q, tT X.K (tOf f) σ H Q → tTest t σ H Q := by
  intro σ H Q h
  obtain ⟨ρ, m, F, as, c, m', env, hp, hf, q⟩ := h
  unfold tOf at hf
  split at hf
  · rename_i b m2 e
    cases hf
    refine i _ _ _ ⟨ρ, m, F, as, _, _, env, hp, e, fun v H' F' as' x hp' r => ?_⟩
    cases r with
    | d r => cases r; exact ⟨c, rfl, q H' F' as' x hp'⟩
  · cases hf
theorem r_cmpT {op : CmpOp} (ho : OpR X (compareOp op) r) (hg : R2Ok X.K r g) (ha : PE X a (tE X.K fa)) (hb : PE X b (tE X.K fb)) (hm : behindInMarks op b = false) : PT X (.Compare a [op] [b] pos) (tT X.K (tOf (eBin g fa fb))) :=
  PT_imp (pt_cmpR ho ha hb hm) (test_read (op_read hg))
theorem r_val {e : Expr} {f : Ex} (h : PE X e (tE X.K f)) (he : ∀ whole, isTrue e X.env whole = (do let v ← whole; standAt e.pos; holding [v] (truthy v)) := by intro _; rfl) : PT X e (tT X.K (tOf f)) :=
  PT_imp (pt_val h he) (test_read fun _ _ _ h => h)
end

/-! ### operators on data -/
def D2Ok (K : PySem.W.Frag) (r : R2) (op : D → D → Option D) : Prop := ∀ x y H F dx dy d Q, FSub F H → RepL K H F x dx → RepL K H F y dy → op dx dy = some d →
  (∀ v H' F', Grow H F H' F' → Rep K F' v d → Q v H') → r x y H Q
def g2 (op : D → D → Option D) : G2 := fun x y m => (look m x).bind fun dx => (look m y).bind fun dy => (op dx dy).bind fun d => some (.d d, m)
theorem D2Ok.r2 {K : PySem.W.Frag} {r : R2} {op : D → D → Option D} (h : D2Ok K r op) : R2Ok K r (g2 op) := by
  intro x y H F as m ex ey e m' Q hp rx ry hf q
  obtain ⟨dx, h1, hf⟩ := bind2 hf
  obtain ⟨dy, h2, hf⟩ := bind2 hf
  obtain ⟨d, h3, hf⟩ := bind2 hf
  cases hf
  exact h x y H F dx dy d Q hp.sub (look_rep hp rx h1) (look_rep hp ry h2) h3 fun v H' F' g r => q v H' F' as (hp.ext g) (hp.grow g) (.d r)
def big : Nat := 1000000
/-- truth, not to be computed -/
noncomputable def okP (p : Prop) : Bool := @decide p (Classical.propDecidable p)
theorem okP_true {p : Prop} (h : p) : okP p = true := by unfold okP; exact @decide_eq_true p (Classical.propDecidable p) h
theorem of_okP {p : Prop} (h : okP p = true) : p := by unfold okP at h; exact @of_decide_eq_true p (Classical.propDecidable p) h
theorem big_le {n : Nat} (h : n ≤ big) : n ≤ sizeLine := Nat.le_trans h (by rw [sizeLine_eq]; decide)
theorem big_lt {n : Nat} (h : n < big) : n < sizeLine := Nat.lt_of_lt_of_le h (by rw [sizeLine_eq]; decide)

def opAdd : D → D → Option D
  | .int i, .int j => some (.int (i + j))
  | .str x, .str y => if x.length + y.length ≤ big then some (.str (x ++ y)) else none
  | .tup xs, .tup ys => if xs.length + ys.length ≤ big then some (.tup (xs ++ ys)) else none
  | .lst xs, .lst ys => if xs.length + ys.length ≤ big then some (.lst (xs ++ ys)) else none
  | _, _ => none
def rAddA (K : PySem.W.Frag) : R2 := fun x y H Q => (rI0 fun i j => .int (i + j)) x y H Q ∨ (fun x y H Q => ∃ i j, x = .str i ∧ y = .str j ∧ i.length + j.length ≤ sizeLine ∧ Q (.str (i ++ j)) H : R2) x y H Q ∨ rCatA K x y H Q ∨ rCat x y H Q
section
variable {X : Cx}
theorem op_addA : OpR X (binaryOp .Add) (rAddA X.K) := OpR.or op_add (OpR.or op_add_str (OpR.or op_catA op_cat))
theorem d_add {K : PySem.W.Frag} : D2Ok K (rAddA K) opAdd := by
  intro x y H F dx dy d Q s rx ry hd q
  unfold opAdd at hd
  split at hd
  · cases hd
    exact .inl ⟨_, _, rx.int, ry.int, q _ H F (.refl s) .int⟩
  · split at hd
    · rename_i z
      cases hd
      exact .inr (.inl ⟨_, _, rx.str, ry.str, big_le z, q _ H F (.refl s) .str⟩)
    · cases hd
  · split at hd
    · rename_i z
      cases hd
      obtain ⟨a, vs, rfl, f1, h1, z1, r1⟩ := rx.tup s
      obtain ⟨b, ws, rfl, f2, h2, z2, r2⟩ := ry.tup s
      have zz : vs.length + ws.length ≤ sizeLine := by rw [r1.length, r2.length]; exact big_le z
      refine .inr (.inr (.inl ⟨a, b, vs, ws, rfl, rfl, .of h1, .of h2, zz, fun e => ?_, fun _ e => ?_, fun _ _ p hp => ?_⟩))
      · subst e
        refine q _ H F (.refl s) (.tup f2 z2 ?_)
        cases r1
        exact r2
      · subst e
        refine q _ H F (.refl s) (.tup f1 z1 ?_)
        cases r2
        rw [List.append_nil]
        exact r1
      · have g := Grow.laid (o := .tup (vs ++ ws)) s hp
        exact q _ _ _ g (.tup upd_same (by rw [List.length_append]; exact zz) ((r1.append r2).mono (g.same s)))
    · cases hd
  · split at hd
    · rename_i z
      cases hd
      obtain ⟨a, vs, rfl, h1, z1, r1⟩ := rx.list s
      obtain ⟨b, ws, rfl, h2, z2, r2⟩ := ry.list s
      have zz : vs.length + ws.length ≤ sizeLine := by rw [r1.length, r2.length]; exact big_le z
      refine .inr (.inr (.inr ⟨a, b, vs, ws, rfl, rfl, h1, h2, zz, fun p hp => ?_⟩))
      have g := Grow.laid (o := .lst (vs ++ ws)) s hp
      exact q _ _ _ g (.lst upd_same (by rw [List.length_append]; exact zz) ((r1.append r2).mono (g.same s)))
    · cases hd
  · cases hd
end
/-- ints alone -/
def opI (f : Int → Int → Option D) : D → D → Option D
  | .int i, .int j => f i j
  | _, _ => none
theorem d_int {K : PySem.W.Frag} {C : Int → Int → Prop} {g : Int → Int → V} {f : Int → Int → Option D} (h : ∀ i j d, f i j = some d → C i j ∧ ∀ F : Hp, Rep K F (g i j) d) : D2Ok K (rI C g) (opI f) := by
  intro x y H F dx dy d Q s rx ry hd q
  unfold opI at hd
  split at hd
  · obtain ⟨c, r⟩ := h _ _ _ hd
    exact ⟨_, _, rx.int, ry.int, c, q _ H F (.refl s) (r F)⟩
  · cases hd
theorem d_int0 {K : PySem.W.Frag} {g : Int → Int → V} {f : Int → Int → Option D} (h : ∀ i j d, f i j = some d → ∀ F : Hp, Rep K F (g i j) d) : D2Ok K (rI0 g) (opI f) := by
  intro x y H F dx dy d Q s rx ry hd q
  unfold opI at hd
  split at hd
  · exact ⟨_, _, rx.int, ry.int, q _ H F (.refl s) (h _ _ _ hd F)⟩
  · cases hd
abbrev opSub := opI fun i j => some (.int (i - j))
noncomputable abbrev opMul := opI fun i j => if okP ((-(2 ^ 64) < i ∧ i < 2 ^ 64) ∨ (-(2 ^ 64) < j ∧ j < 2 ^ 64)) = true then some (.int (i * j)) else none
abbrev opDiv := opI fun i j => if 0 < j ∧ j < 1073741824 then some (.int (i / j)) else none
abbrev opMod := opI fun i j => if 0 < j then some (.int (i % j)) else none
abbrev opLt := opI fun i j => some (.bl (decide (i < j)))
abbrev opLe := opI fun i j => some (.bl (decide (i ≤ j)))
abbrev opGt := opI fun i j => some (.bl (decide (j < i)))
abbrev opGe := opI fun i j => some (.bl (decide (j ≤ i)))
section
variable {K : PySem.W.Frag}
theorem d_sub : D2Ok K (rI0 fun i j => .int (i - j)) opSub := d_int0 fun i j d h F => by cases h; exact .int
theorem d_lt : D2Ok K (rI0 fun i j => .bl (decide (i < j))) opLt := d_int0 fun i j d h F => by cases h; exact .bl
theorem d_le : D2Ok K (rI0 fun i j => .bl (decide (i ≤ j))) opLe := d_int0 fun i j d h F => by cases h; exact .bl
theorem d_gt : D2Ok K (rI0 fun i j => .bl (decide (j < i))) opGt := d_int0 fun i j d h F => by cases h; exact .bl
theorem d_ge : D2Ok K (rI0 fun i j => .bl (decide (j ≤ i))) opGe := d_int0 fun i j d h F => by cases h; exact .bl
theorem d_mul : D2Ok K (rI CMul fun i j => .int (i * j)) opMul := d_int fun i j d h => by
  split at h
  · rename_i c
    have c := of_okP c; cases h; exact ⟨c, fun _ => .int⟩
  · cases h
theorem d_div : D2Ok K (rI CDiv fun i j => .int (i / j)) opDiv := d_int fun i j d h => by
  split at h
  · rename_i c; cases h; exact ⟨c, fun _ => .int⟩
  · cases h
theorem d_mod : D2Ok K (rI (fun _ j => 0 < j) fun i j => .int (i % j)) opMod := d_int fun i j d h => by
  split at h
  · rename_i c; cases h; exact ⟨c, fun _ => .int⟩
  · cases h
end
/-- == of scalars -/
def eqS : D → D → Option Bool
  | .int i, .int j => some (decide (i = j))
  | .bl i, .bl j => some (decide (i = j))
  | .str i, .str j => some (decide (i = j))
  | .non, .non => some true
  | .non, .int _ => some false
  | .int _, .non => some false
  | _, _ => none
def opEq (x y : D) : Option D := (eqS x y).map .bl
def opNe (x y : D) : Option D := (eqS x y).map fun b => .bl !b
theorem eqS_ok {K : PySem.W.Frag} {H F : Hp} {x y : V} {dx dy : D} {b : Bool} (rx : RepL K H F x dx) (ry : RepL K H F y dy) (h : eqS dx dy = some b) : scal x y = true ∧ decide (x = y) = b := by
  unfold eqS at h
  split at h <;> cases h
  · rw [rx.int, ry.int]; exact ⟨rfl, by simp⟩
  · rw [rx.bl, ry.bl]; exact ⟨rfl, by simp⟩
  · rw [rx.str, ry.str]; exact ⟨rfl, by simp⟩
  · rw [rx.non, ry.non]; exact ⟨rfl, by simp⟩
  · rw [rx.non, ry.int]; exact ⟨rfl, by simp⟩
  · rw [rx.int, ry.non]; exact ⟨rfl, by simp⟩
theorem d_eq {K : PySem.W.Frag} : D2Ok K rEq opEq := by
  intro x y H F dx dy d Q s rx ry hd q
  obtain ⟨b, h1, rfl⟩ := Option.map_eq_some_iff.mp hd
  obtain ⟨h2, h3⟩ := eqS_ok rx ry h1
  exact ⟨h2, by rw [h3]; exact q _ H F (.refl s) .bl⟩
theorem d_ne {K : PySem.W.Frag} : D2Ok K rNe opNe := by
  intro x y H F dx dy d Q s rx ry hd q
  obtain ⟨b, h1, rfl⟩ := Option.map_eq_some_iff.mp hd
  obtain ⟨h2, h3⟩ := eqS_ok rx ry h1
  exact ⟨h2, by rw [h3]; exact q _ H F (.refl s) .bl⟩

/-! ### places -/
def opIx : D → D → Option D
  | .lst xs, .int i => atI xs i
  | .tup xs, .int i => atI xs i
  | .scr ns, .int i => (atI ns i).map .int
  | _, _ => none
theorem atI_rep {K : PySem.W.Frag} {F : Hp} {vs : List V} {ds : List D} {i : Int} {d : D} (r : Reps K F vs ds) (h : atI ds i = some d) : ∃ v, atI vs i = some v ∧ Rep K F v d := by
  unfold atI at h ⊢
  rw [← r.length] at h
  obtain ⟨j, h1, h2⟩ := bind2 h
  obtain ⟨v, e1, e2⟩ := r.get h2
  exact ⟨v, by rw [h1]; exact e1, e2⟩
theorem atI_map {α β : Type} (f : α → β) (xs : List α) (i : Int) : atI (xs.map f) i = (atI xs i).map f := by
  unfold atI
  rw [List.length_map]
  cases ixN xs.length i with
  | none => rfl
  | some j => simp
theorem d_ix {K : PySem.W.Frag} : D2Ok K (rIx K) opIx := by
  intro x y H F dx dy d Q s rx ry hd q
  unfold opIx at hd
  split at hd
  · obtain ⟨a, vs, rfl, h1, z1, r1⟩ := rx.list s
    obtain ⟨v, e1, e2⟩ := atI_rep r1 hd
    exact .inl ⟨a, vs, _, v, rfl, ry.int, .of h1, e1, q _ H F (.refl s) e2⟩
  · obtain ⟨a, vs, rfl, f1, h1, z1, r1⟩ := rx.tup s
    obtain ⟨v, e1, e2⟩ := atI_rep r1 hd
    exact .inr (.inl ⟨a, vs, _, v, rfl, ry.int, .of h1, e1, q _ H F (.refl s) e2⟩)
  · obtain ⟨n, e1, rfl⟩ := Option.map_eq_some_iff.mp hd
    obtain ⟨a, rfl, h1⟩ := rx.scr s
    exact .inl ⟨a, _, _, .int n, rfl, ry.int, h1, by rw [atI_map, e1]; rfl, q _ H F (.refl s) .int⟩
  · cases hd
end PL
/-! PL3: tests, arguments, displays, statements, functions. -/
namespace PL
open PySem PySem.Spec L2
set_option autoImplicit false

/-! ### tests -/
def tAndM (f g : Tx) : Tx := fun ρ m => (f ρ m).bind fun p => if p.1 = true then g ρ p.2 else some (false, p.2)
def tOrM (f g : Tx) : Tx := fun ρ m => (f ρ m).bind fun p => if p.1 = true then some (true, p.2) else g ρ p.2
def tNotM (f : Tx) : Tx := fun ρ m => (f ρ m).bind fun p => some (!p.1, p.2)
def eIf (t : Tx) (f g : Ex) : Ex := fun ρ m => (t ρ m).bind fun p => if p.1 = true then f ρ p.2 else g ρ p.2
/-- and, or, not as values, of bools -/
def eAnd (f g : Ex) : Ex := fun ρ m => (tOf f ρ m).bind fun p => if p.1 = true then g ρ p.2 else some (.d (.bl false), p.2)
def eOr (f g : Ex) : Ex := fun ρ m => (tOf f ρ m).bind fun p => if p.1 = true then some (.d (.bl true), p.2) else g ρ p.2
def eNot (f : Ex) : Ex := fun ρ m => (tOf f ρ m).bind fun p => some (.d (.bl !p.1), p.2)
theorem tOf_some {f : Ex} {ρ : Rho} {m m' : Store} {b : Bool} (h : tOf f ρ m = some (b, m')) : f ρ m = some (.d (.bl b), m') := by
  unfold tOf at h
  split at h
  · rename_i e; cases h; exact e
  · cases h
section
variable {X : Cx} {pos : Pos} {a b c : Expr} {rest : List Expr} {f g : Tx} {fa fb : Ex}
theorem tstep {K : PySem.W.Frag} {σ : L2.St} {H : Hp} {ρ : Rho} {m m' : Store} {F : Hp} {as : Cs} {b : Bool} {f : Tx} {Q : Bool → Hp → Prop} (env : EnvOk K F as σ ρ) (hp : HeapOk K H F as m) (h : f ρ m = some (b, m'))
    (q : ∀ H' F' as', Ext F F' as as' → HeapOk K H' F' as' m' → EnvOk K F' as' σ ρ → Q b H') : tT K f σ H Q := ⟨ρ, m, F, as, b, m', env, hp, h, fun H' F' as' x hp' => q H' F' as' x hp' (env.ext x)⟩
theorem estep {K : PySem.W.Frag} {σ : L2.St} {H : Hp} {ρ : Rho} {m m' : Store} {F : Hp} {as : Cs} {e : E} {f : Ex} {Q : VK} (env : EnvOk K F as σ ρ) (hp : HeapOk K H F as m) (h : f ρ m = some (e, m'))
    (q : ∀ v H' F' as', Ext F F' as as' → HeapOk K H' F' as' m' → EnvOk K F' as' σ ρ → RepE K F' as' v e → Q v H') : tE K f σ H Q := ⟨ρ, m, F, as, e, m', env, hp, h, fun v H' F' as' x hp' r => q v H' F' as' x hp' (env.ext x) r⟩
theorem r_and1 (ha : PT X a (tT X.K f)) : PW X (.BoolOp .And [a] pos) (tT X.K f) := pw_and1 ha
theorem r_or1 (ha : PT X a (tT X.K f)) : PW X (.BoolOp .Or [a] pos) (tT X.K f) := pw_or1 ha
theorem r_and (ha : PT X a (tT X.K f)) (hb : PW X (.BoolOp .And (b :: rest) pos) (tT X.K g)) : PW X (.BoolOp .And (a :: b :: rest) pos) (tT X.K (tAndM f g)) := by
  refine PW_imp (pw_and ha hb) fun σ H Q h => ?_
  obtain ⟨ρ, m, F, as, r, m', env, hp, hf, q⟩ := h
  obtain ⟨⟨k, m1⟩, h1, hf⟩ := bind2 hf
  refine tstep env hp h1 fun H1 F1 as1 x1 hp1 env1 => ?_
  cases k with
  | true => exact tstep env1 hp1 hf fun H2 F2 as2 x2 hp2 _ => q H2 F2 as2 (x1.trans x2) hp2
  | false => cases hf; exact q H1 F1 as1 x1 hp1
theorem r_or (ha : PT X a (tT X.K f)) (hb : PW X (.BoolOp .Or (b :: rest) pos) (tT X.K g)) : PW X (.BoolOp .Or (a :: b :: rest) pos) (tT X.K (tOrM f g)) := by
  refine PW_imp (pw_or ha hb) fun σ H Q h => ?_
  obtain ⟨ρ, m, F, as, r, m', env, hp, hf, q⟩ := h
  obtain ⟨⟨k, m1⟩, h1, hf⟩ := bind2 hf
  refine tstep env hp h1 fun H1 F1 as1 x1 hp1 env1 => ?_
  cases k with
  | false => exact tstep env1 hp1 hf fun H2 F2 as2 x2 hp2 _ => q H2 F2 as2 (x1.trans x2) hp2
  | true => cases hf; exact q H1 F1 as1 x1 hp1
theorem r_not (ha : PT X a (tT X.K f)) : PT X (.UnaryOp .Not a pos) (tT X.K (tNotM f)) := by
  refine PT_imp (pt_not ha) fun σ H Q h => ?_
  obtain ⟨ρ, m, F, as, r, m', env, hp, hf, q⟩ := h
  obtain ⟨⟨k, m1⟩, h1, hf⟩ := bind2 hf
  cases hf
  exact tstep env hp h1 fun H1 F1 as1 x1 hp1 _ => q H1 F1 as1 x1 hp1
theorem r_if (hc : PT X c (tT X.K f)) (ha : PE X a (tE X.K fa)) (hb : PE X b (tE X.K fb)) : PE X (.IfExp c a b pos) (tE X.K (eIf f fa fb)) := by
  refine PE_imp (pe_ifExp hc ha hb) fun σ H Q h => ?_
  obtain ⟨ρ, m, F, as, r, m', env, hp, hf, q⟩ := h
  obtain ⟨⟨k, m1⟩, h1, hf⟩ := bind2 hf
  refine tstep env hp h1 fun H1 F1 as1 x1 hp1 env1 => ?_
  cases k with
  | true => exact estep env1 hp1 hf fun v H2 F2 as2 x2 hp2 _ r => q v H2 F2 as2 (x1.trans x2) hp2 r
  | false => exact estep env1 hp1 hf fun v H2 F2 as2 x2 hp2 _ r => q v H2 F2 as2 (x1.trans x2) hp2 r
theorem RepE_bl {K : PySem.W.Frag} {F : Hp} {as : Cs} {v : V} {b : Bool} (r : RepE K F as v (.d (.bl b))) : v = .bl b := by cases r with | d r => cases r; rfl
theorem r_eone {op} (h : PE X a (tE X.K fa)) : PE X (.BoolOp op [a] pos) (tE X.K fa) := pe_one h
theorem r_eand (ha : PE X a (tE X.K fa)) (hb : PE X (.BoolOp .And (b :: rest) pos) (tE X.K fb)) : PE X (.BoolOp .And (a :: b :: rest) pos) (tE X.K (eAnd fa fb)) := by
  refine PE_imp (pe_and ha hb) fun σ H Q h => ?_
  obtain ⟨ρ, m, F, as, r, m', env, hp, hf, q⟩ := h
  obtain ⟨⟨k, m1⟩, h1, hf⟩ := bind2 hf
  refine estep env hp (tOf_some h1) fun v H1 F1 as1 x1 hp1 env1 r1 => ⟨k, RepE_bl r1, ?_⟩
  cases k with
  | true => exact estep env1 hp1 hf fun v H2 F2 as2 x2 hp2 _ r => q v H2 F2 as2 (x1.trans x2) hp2 r
  | false => cases hf; exact q _ H1 F1 as1 x1 hp1 (.d .bl)
theorem r_eor (ha : PE X a (tE X.K fa)) (hb : PE X (.BoolOp .Or (b :: rest) pos) (tE X.K fb)) : PE X (.BoolOp .Or (a :: b :: rest) pos) (tE X.K (eOr fa fb)) := by
  refine PE_imp (pe_or ha hb) fun σ H Q h => ?_
  obtain ⟨ρ, m, F, as, r, m', env, hp, hf, q⟩ := h
  obtain ⟨⟨k, m1⟩, h1, hf⟩ := bind2 hf
  refine estep env hp (tOf_some h1) fun v H1 F1 as1 x1 hp1 env1 r1 => ⟨k, RepE_bl r1, ?_⟩
  cases k with
  | false => exact estep env1 hp1 hf fun v H2 F2 as2 x2 hp2 _ r => q v H2 F2 as2 (x1.trans x2) hp2 r
  | true => cases hf; exact q _ H1 F1 as1 x1 hp1 (.d .bl)
theorem r_enot (ha : PE X a (tE X.K fa)) : PE X (.UnaryOp .Not a pos) (tE X.K (eNot fa)) := by
  refine PE_imp (pe_not ha) fun σ H Q h => ?_
  obtain ⟨ρ, m, F, as, r, m', env, hp, hf, q⟩ := h
  obtain ⟨⟨k, m1⟩, h1, hf⟩ := bind2 hf
  cases hf
  exact estep env hp (tOf_some h1) fun v H1 F1 as1 x1 hp1 env1 r1 => ⟨k, RepE_bl r1, q _ H1 F1 as1 x1 hp1 (.d .bl)⟩
end

/-! ### freezing: a cell that is handed on into data is written no more -/
def frzE (m : Store) : E → Option (D × Store)
  | .d x => some (x, m)
  | .own c => (look m (.own c)).bind fun d => some (d, m.set c (.frz d))
  | .deal _ _ _ => none
section
variable {K : PySem.W.Frag} {F F' H H' : Hp} {as as' : Cs} {m m' : Store} {v : V} {e : E}
theorem HeapOk.upF {a : Addr} {c : Nat} {o : HO} {d : D} (x : HeapOk K H F as m) (ha : as.c[c]? = some a) (hF : F a = none) (hH : H a = some o) (r : Rep K (upd F a o) (.ref a) d) : Same F (upd F a o) ∧ HeapOk K H (upd F a o) as (m.set c (.frz d)) := by
  have sm : Same F (upd F a o) := fun b u q => by
    rw [upd_ne (fun z => by rw [z, hF] at q; cases q)]
    exact q
  refine ⟨sm, ⟨fun b u q => ?_, by rw [List.length_set]; exact x.len, x.nd, x.there, fun c' b u q1 q2 => ?_, fun p hp => ?_, x.pnd⟩⟩
  case refine_3 =>
    obtain ⟨p1, p2, p3⟩ := x.prot p hp
    exact ⟨p1, by rw [upd_ne (fun z => p3 (by rw [z]; exact List.mem_of_getElem? ha))]; exact p2, p3⟩
  · by_cases hb : b = a
    · subst hb
      rw [upd_same] at q
      cases q
      exact .inl hH
    · rw [upd_ne hb] at q
      exact x.sub b u q
  · by_cases hc : c = c'
    · subst hc
      rw [ha] at q1
      cases q1
      have hl : c < m.length := by rw [← x.len]; exact (List.getElem?_eq_some_iff.mp ha).1
      rw [List.getElem?_set_self hl] at q2
      cases q2
      exact r
    · rw [List.getElem?_set_ne hc] at q2
      have nb : b ≠ a := fun z => by
        rw [z] at q1
        exact hc (nd_ix x.nd ha q1)
      have y := x.cell c' b u q1 q2
      cases u with
      | lst ds => obtain ⟨y1, z, vs, y2, y3⟩ := y; exact ⟨by rw [upd_ne nb]; exact y1, z, vs, y2, y3.mono sm⟩
      | dic ds => obtain ⟨y1, vs, y2, y3⟩ := y; exact ⟨by rw [upd_ne nb]; exact y1, vs, y2, y3.mono sm⟩
      | dicT ds => obtain ⟨y1, vs, y2, y3⟩ := y; exact ⟨by rw [upd_ne nb]; exact y1, vs, y2, y3.mono sm⟩
      | frz d' => exact Rep.mono sm y
theorem Same.updF {a : Addr} {o : HO} (h : F a = none) : Same F (upd F a o) := fun b u q => by
  rw [upd_ne (fun z => by rw [z, h] at q; cases q)]
  exact q
theorem frzE_ok {d : D} (x : HeapOk K H F as m) (r : RepE K F as v e) (h : frzE m e = some (d, m')) : ∃ F', Ext F F' as as ∧ HeapOk K H F' as m' ∧ Rep K F' v d := by
  cases r with
  | d r => cases h; exact ⟨F, .refl, x, r⟩
  | @own a c r =>
    obtain ⟨d', h1, h2⟩ := bind2 h
    cases h2
    unfold look at h1
    cases q : m[c]? with
    | none => simp only [q] at h1; cases h1
    | some o =>
      have y := x.cell c a o r q
      simp only [q] at h1
      cases o with
      | lst ds =>
        cases h1
        obtain ⟨y1, z, vs, y2, y3⟩ := y
        have rr : Rep K (upd F a (.lst vs)) (.ref a) (.lst ds) := .lst upd_same (by rw [y3.length]; exact z) (y3.mono (Same.updF y1))
        obtain ⟨s, hp⟩ := x.upF r y1 y2 rr
        exact ⟨_, ⟨s, List.prefix_refl _, rfl⟩, hp, rr⟩
      | dic ds =>
        cases h1
        obtain ⟨y1, vs, y2, y3⟩ := y
        have rr : Rep K (upd F a (.dK vs)) (.ref a) (.dic ds) := .dic upd_same (y3.mono (Same.updF y1))
        obtain ⟨s, hp⟩ := x.upF r y1 y2 rr
        exact ⟨_, ⟨s, List.prefix_refl _, rfl⟩, hp, rr⟩
      | dicT ds =>
        cases h1
        obtain ⟨y1, vs, y2, y3⟩ := y
        have rr : Rep K (upd F a (.dT vs)) (.ref a) (.dicT ds) := .dicT upd_same (y3.mono (Same.updF y1))
        obtain ⟨s, hp⟩ := x.upF r y1 y2 rr
        exact ⟨_, ⟨s, List.prefix_refl _, rfl⟩, hp, rr⟩
      | frz d =>
        cases h1
        refine ⟨F, .refl, ⟨x.sub, by rw [List.length_set]; exact x.len, x.nd, x.there, fun c' b u q1 q2 => ?_, x.prot, x.pnd⟩, y⟩
        by_cases hc : c = c'
        · subst hc
          rw [r] at q1
          cases q1
          have hl : c < m.length := by rw [← x.len]; exact (List.getElem?_eq_some_iff.mp r).1
          rw [List.getElem?_set_self hl] at q2
          cases q2
          exact y
        · rw [List.getElem?_set_ne hc] at q2
          exact x.cell c' b u q1 q2
  | deal => cases h
end

/-! ### arguments -/
def aNil : Ax := fun _ m => some ([], m)
def aCons (f : Ex) (g : Ax) : Ax := fun ρ m => (f ρ m).bind fun p => (g ρ p.2).bind fun q => some (p.1 :: q.1, q.2)
/-- the values frozen, one after another -/
def frzAll : List E → Store → Option (List D × Store)
  | [], m => some ([], m)
  | e :: es, m => (frzE m e).bind fun p => (frzAll es p.2).bind fun q => some (p.1 :: q.1, q.2)
section
variable {X : Cx} {e : Expr} {es : List Expr} {f : Ex} {g : Ax} {pos : Pos}
theorem r_anil : PA X [] (tA X.K aNil) := PA_imp pa_nil fun σ H Q h => by
  obtain ⟨ρ, m, F, as, es, m', env, hp, hf, q⟩ := h
  cases hf
  exact q _ H F as .refl hp .nil
theorem r_acons (ha : PE X e (tE X.K f)) (hr : PA X es (tA X.K g)) (hs : starEach (e :: es) X.env = (false, eval e X.env) :: starEach es X.env := by rfl) : PA X (e :: es) (tA X.K (aCons f g)) :=
  PA_imp (pa_cons ha hr hs) fun σ H Q h => by
    obtain ⟨ρ, m, F, as, es, m', env, hp, hf, q⟩ := h
    obtain ⟨⟨e1, m1⟩, h1, hf⟩ := bind2 hf
    obtain ⟨⟨es1, m2⟩, h2, hf⟩ := bind2 hf
    cases hf
    refine estep env hp h1 fun v H1 F1 as1 x1 hp1 env1 r1 => ⟨ρ, m1, F1, as1, es1, _, env1, hp1, h2, fun vs H2 F2 as2 x2 hp2 r2 => ?_⟩
    exact q _ H2 F2 as2 (x1.trans x2) hp2 (.cons (r1.ext x2) r2)
theorem frzAll_ok {K : PySem.W.Frag} {H : Hp} {as : Cs} : ∀ {es : List E} {vs : List V} {F : Hp} {m m' : Store} {ds : List D}, HeapOk K H F as m → RepEs K F as vs es → frzAll es m = some (ds, m') →
    ∃ F', Ext F F' as as ∧ HeapOk K H F' as m' ∧ Reps K F' vs ds
  | [], _, F, m, m', ds, x, .nil, h => by cases h; exact ⟨F, .refl, x, .nil⟩
  | e :: es, _, F, m, m', ds, x, .cons r rs, h => by
    obtain ⟨⟨d, m1⟩, h1, h⟩ := bind2 h
    obtain ⟨⟨ds1, m2⟩, h2, h⟩ := bind2 h
    cases h
    obtain ⟨F1, x1, hp1, r1⟩ := frzE_ok x r h1
    obtain ⟨F2, x2, hp2, r2⟩ := frzAll_ok hp1 (rs.ext x1) h2
    exact ⟨F2, x1.trans x2, hp2, .cons (r1.mono x2.1) r2⟩
/-- (a, b, ..) -/
def eTup (g : Ax) : Ex := fun ρ m => (g ρ m).bind fun p => (frzAll p.1 p.2).bind fun q => if q.1.length ≤ big then some (.d (.tup q.1), q.2) else none
/-- [a, b, ..] that is not written any more -/
def eLst (g : Ax) : Ex := fun ρ m => (g ρ m).bind fun p => (frzAll p.1 p.2).bind fun q => if q.1.length ≤ big then some (.d (.lst q.1), q.2) else none
/-- [a, b, ..] that is written later -/
def eLstO (g : Ax) : Ex := fun ρ m => (g ρ m).bind fun p => (frzAll p.1 p.2).bind fun q => if q.1.length ≤ big then some (.own q.2.length, q.2 ++ [.lst q.1]) else none
theorem r_tup {x1} (h : PA X es (tA X.K g)) : PE X (.Tuple es x1 pos) (tE X.K (eTup g)) := PE_imp (pe_tup h) fun σ H Q h => by
  obtain ⟨ρ, m, F, as, e, m', env, hp, hf, q⟩ := h
  obtain ⟨⟨es1, m1⟩, h1, hf⟩ := bind2 hf
  obtain ⟨⟨ds, m2⟩, h2, hf⟩ := bind2 hf
  refine ⟨ρ, m, F, as, es1, m1, env, hp, h1, fun vs H1 F1 as1 x1 hp1 r1 => ?_⟩
  obtain ⟨F2, x2, hp2, r2⟩ := frzAll_ok hp1 r1 h2
  split at hf
  · rename_i z
    cases hf
    have z' : vs.length ≤ sizeLine := by rw [r2.length]; exact big_le z
    refine ⟨z', fun p hn => ?_⟩
    have gr := Grow.laid (o := .tup vs) hp2.sub hn
    exact q _ _ _ as1 (x1.trans (x2.trans (hp2.ext gr))) (hp2.grow gr) (.d (.tup upd_same z' (r2.mono (gr.same hp2.sub))))
  · cases hf
theorem r_lst (h : PA X es (tA X.K g)) : PE X (.List es pos) (tE X.K (eLst g)) := PE_imp (pe_lst h) fun σ H Q h => by
  obtain ⟨ρ, m, F, as, e, m', env, hp, hf, q⟩ := h
  obtain ⟨⟨es1, m1⟩, h1, hf⟩ := bind2 hf
  obtain ⟨⟨ds, m2⟩, h2, hf⟩ := bind2 hf
  refine ⟨ρ, m, F, as, es1, m1, env, hp, h1, fun vs H1 F1 as1 x1 hp1 r1 => ?_⟩
  obtain ⟨F2, x2, hp2, r2⟩ := frzAll_ok hp1 r1 h2
  split at hf
  · rename_i z
    cases hf
    have z' : vs.length ≤ sizeLine := by rw [r2.length]; exact big_le z
    refine ⟨z', fun p hn => ?_⟩
    have gr := Grow.laid (o := .lst vs) hp2.sub hn
    exact q _ _ _ as1 (x1.trans (x2.trans (hp2.ext gr))) (hp2.grow gr) (.d (.lst upd_same z' (r2.mono (gr.same hp2.sub))))
  · cases hf
end
/-- a new cell -/
theorem HeapOk.cellNew {K : PySem.W.Frag} {H F : Hp} {as : Cs} {m : Store} {p : Addr} {ho : HO} {o : O} (x : HeapOk K H F as m) (hn : H p = none) (y : CellOk K (upd H p ho) F p o) : HeapOk K (upd H p ho) F ⟨as.c ++ [p], as.g⟩ (m ++ [o]) := by
  have ne : ∀ a, H a ≠ none → a ≠ p := fun a q z => q (by rw [z]; exact hn)
  have nF : F p = none := x.sub.free hn
  refine ⟨fun a u q => ?_, by show (as.c ++ [p]).length = _; rw [List.length_append, List.length_append, x.len]; rfl, ?_, fun a q => ?_, fun c a u q1 q2 => ?_, fun r hr => ?_, x.pnd⟩
  · rw [upd_ne (ne a (x.sub.there q))]; exact x.sub a u q
  · show (as.c ++ [p]).Nodup
    rw [List.nodup_append]
    refine ⟨x.nd, by simp, fun a ha b hb => ?_⟩
    have e : b = p := by simpa using hb
    rw [e]
    exact ne a (x.there a ha)
  · rcases List.mem_append.mp q with q | q
    · rw [upd_ne (ne a (x.there a q))]; exact x.there a q
    · have e : a = p := by simpa using q
      rw [e, upd_same]; simp
  · have q1 : (as.c ++ [p])[c]? = some a := q1
    by_cases hc : c < as.c.length
    · rw [List.getElem?_append_left hc] at q1
      rw [List.getElem?_append_left (by rw [← x.len]; exact hc)] at q2
      have na := ne a (x.there a (List.mem_of_getElem? q1))
      have z := x.cell c a u q1 q2
      cases u with
      | lst ds => obtain ⟨y1, z, vs, y2, y3⟩ := z; exact ⟨y1, z, vs, by rw [upd_ne na]; exact y2, y3⟩
      | dic ds => obtain ⟨y1, vs, y2, y3⟩ := z; exact ⟨y1, vs, by rw [upd_ne na]; exact y2, y3⟩
      | dicT ds => obtain ⟨y1, vs, y2, y3⟩ := z; exact ⟨y1, vs, by rw [upd_ne na]; exact y2, y3⟩
      | frz d => exact z
    · rw [List.getElem?_append_right (by omega)] at q1
      rw [List.getElem?_append_right (by rw [← x.len]; omega)] at q2
      rw [← x.len] at q2
      cases k : c - as.c.length with
      | zero =>
        rw [k] at q1 q2
        simp at q1 q2
        subst q1 q2
        exact y
      | succ j => rw [k] at q1; simp at q1
  · obtain ⟨p1, p2, p3⟩ := x.prot r hr
    have nr := ne r.1 (by rw [p1]; simp)
    refine ⟨by rw [upd_ne nr]; exact p1, p2, fun z => ?_⟩
    rcases List.mem_append.mp z with z | z
    · exact p3 z
    · exact nr (by simpa using z)
theorem pre_snoc {α : Type} (l : List α) (x : α) : l <+: l ++ [x] := ⟨[x], rfl⟩
section
variable {X : Cx} {e : Expr} {es : List Expr} {f : Ex} {g : Ax} {pos : Pos}
theorem r_lstO (h : PA X es (tA X.K g)) : PE X (.List es pos) (tE X.K (eLstO g)) := PE_imp (pe_lst h) fun σ H Q h => by
  obtain ⟨ρ, m, F, as, e, m', env, hp, hf, q⟩ := h
  obtain ⟨⟨es1, m1⟩, h1, hf⟩ := bind2 hf
  obtain ⟨⟨ds, m2⟩, h2, hf⟩ := bind2 hf
  refine ⟨ρ, m, F, as, es1, m1, env, hp, h1, fun vs H1 F1 as1 x1 hp1 r1 => ?_⟩
  obtain ⟨F2, x2, hp2, r2⟩ := frzAll_ok hp1 r1 h2
  split at hf
  · rename_i z
    cases hf
    have z' : vs.length ≤ sizeLine := by rw [r2.length]; exact big_le z
    refine ⟨z', fun p hn => ?_⟩
    refine q _ _ F2 ⟨as1.c ++ [p], as1.g⟩ (x1.trans (x2.trans ⟨Same.refl _, pre_snoc _ _, rfl⟩)) (hp2.cellNew hn ⟨hp2.sub.free hn, big_le z, vs, upd_same, r2⟩) (.own ?_)
    rw [← hp2.len]
    simp
  · cases hf
end
end PL
/-! PL4: targets, what is walked, comprehensions, statements, functions. -/
namespace PL
open PySem PySem.Spec L2
set_option autoImplicit false

/-! ### targets -/
abbrev Tg := E → Rho → Option Rho
structure TgOk (K : PySem.W.Frag) (g : TG) (tg : Tg) (vs : List Nat) : Prop where
  run : ∀ {v : V} {σ : L2.St} {H F : Hp} {as : Cs} {m : Store} {ρ ρ' : Rho} {e : E} {Q : L2.St → Hp → Prop}, EnvOk K F as σ ρ → HeapOk K H F as m → RepE K F as v e → tg e ρ = some ρ' →
    (∀ σ' : L2.St, EnvOk K F as σ' ρ' → σ'.length = σ.length → (∀ j : Nat, j ∉ vs → σ'[j]? = σ[j]?) → Q σ' H) → g v σ H Q
def tgName (i : Nat) : Tg := fun e ρ => some (ρ.set i (some e))
theorem tgOk_name {K : PySem.W.Frag} {i : Nat} {vs : List Nat} (hi : i ∈ vs) : TgOk K (gName i) (tgName i) vs := ⟨fun {v σ H F as m ρ ρ' e Q} env hp r h q => by
  cases h
  exact q _ (env.set i r) (by rw [List.length_set]) fun j hj => List.getElem?_set_ne (fun z => hj (by rw [← z]; exact hi))⟩
def setAll : List Nat → List D → Rho → Option Rho
  | [], [], ρ => some ρ
  | i :: is, d :: ds, ρ => setAll is ds (ρ.set i (some (.d d)))
  | _, _, _ => none
def tgTup (is : List Nat) : Tg := fun e ρ => match e with
  | .d (.tup ds) => setAll is ds ρ
  | .d (.lst ds) => setAll is ds ρ
  | _ => none
def gNames : List Nat → TGs
  | [] => gNil
  | i :: is => gCons (gName i) (gNames is)
theorem gNames_ok {K : PySem.W.Frag} {all : List Nat} : ∀ {is : List Nat} {ds : List D} {vs : List V} {σ : L2.St} {H F : Hp} {as : Cs} {m : Store} {ρ ρ' : Rho} {Q : L2.St → Hp → Prop}, (∀ i ∈ is, i ∈ all) → EnvOk K F as σ ρ → HeapOk K H F as m → Reps K F vs ds → setAll is ds ρ = some ρ' →
    (∀ σ' : L2.St, EnvOk K F as σ' ρ' → σ'.length = σ.length → (∀ j : Nat, j ∉ all → σ'[j]? = σ[j]?) → Q σ' H) → gNames is vs σ H Q
  | [], [], _, σ, H, F, as, m, ρ, ρ', Q, hi, env, hp, .nil, h, q => by
    cases h
    exact ⟨rfl, q σ env rfl fun _ _ => rfl⟩
  | i :: is, d :: ds, _, σ, H, F, as, m, ρ, ρ', Q, hi, env, hp, .cons r rs, h, q => by
    refine ⟨_, _, rfl, gNames_ok (all := all) (fun j hj => hi j (List.mem_cons_of_mem _ hj)) (env.set i (.d r)) hp rs h fun σ' e l s => q σ' e (by rw [l, List.length_set]) fun j hj => ?_⟩
    rw [s j hj]
    exact List.getElem?_set_ne (fun z => hj (by rw [← z]; exact hi i List.mem_cons_self))
  | [], _ :: _, _, _, _, _, _, _, _, _, _, _, _, _, _, h, _ => by cases h
  | _ :: _, [], _, _, _, _, _, _, _, _, _, _, _, _, _, h, _ => by cases h
theorem setAll_len : ∀ {is : List Nat} {ds : List D} {ρ ρ' : Rho}, setAll is ds ρ = some ρ' → ds.length = is.length
  | [], [], _, _, _ => rfl
  | i :: is, d :: ds, _, _, h => congrArg (· + 1) (setAll_len (is := is) (ds := ds) h)
  | [], _ :: _, _, _, h => by cases h
  | _ :: _, [], _, _, h => by cases h
/-- a tuple or a list of the right length -/
def gSeqs (K : PySem.W.Frag) (n : Nat) (t : TGs) : TG := fun v σ H Q => gTup K n t v σ H Q ∨ gLst K n t v σ H Q
theorem pg_seqs {X : Cx} {es : List Expr} {k : Nat} {t : TGs} {n : Nat} {pos : Pos} (hc : X.calm = true) (h : PGs X es t) (hn : (assignEach es X.env).length = n) (hst : (assignEach es X.env).findIdx? (·.1) = none) : PG X (.Tuple es k pos) (gSeqs X.K n t) :=
  ⟨fun pins s σ H v u Q I r q => q.elim ((pg_tup hc h hn hst).run pins s σ H v u Q I r) ((pg_lst hc h hn hst).run pins s σ H v u Q I r)⟩
theorem tgOk_tup {K : PySem.W.Frag} {is vs : List Nat} {n : Nat} (hn : n = is.length) (hi : ∀ i ∈ is, i ∈ vs) : TgOk K (gSeqs K n (gNames is)) (tgTup is) vs := ⟨fun {v σ H F as m ρ ρ' e Q} env hp r h q => by
  unfold tgTup at h
  split at h
  · rename_i ds
    cases r with
    | d r =>
      obtain ⟨a, xs, rfl, f1, h1, z1, r1⟩ := RepL.tup hp.sub (.of r : RepL K H F v (.tup ds))
      exact .inl ⟨a, xs, rfl, .of h1, by rw [r1.length, setAll_len h, hn], gNames_ok hi env hp r1 h q⟩
  · rename_i ds
    cases r with
    | d r =>
      obtain ⟨a, xs, rfl, h1, z1, r1⟩ := RepL.list hp.sub (.of r : RepL K H F v (.lst ds))
      exact .inr ⟨a, xs, rfl, .of h1, by rw [r1.length, setAll_len h, hn], gNames_ok hi env hp r1 h q⟩
  · cases h⟩

/-! ### what is walked -/
abbrev Ix := Rho → Store → Option (List D × Store)
def Walks (K : PySem.W.Frag) (J : It) (F : Hp) (xs : List D) : Prop := ∀ F2 as2 m2 H2, Same F F2 → HeapOk K H2 F2 as2 m2 → ∀ i : Nat,
  (xs.length ≤ i → J.stop i H2) ∧ ∀ d, xs[i]? = some d → J.go i H2 ∧ ∀ x H', J.yld i H2 x H' → ∃ F', Grow H2 F2 H' F' ∧ Rep K F' x d
def tI (K : PySem.W.Frag) (f : Ix) : TI := fun σ H R => ∃ ρ m F as xs m', EnvOk K F as σ ρ ∧ HeapOk K H F as m ∧ f ρ m = some (xs, m') ∧
  ∀ J H' F' as', Ext F F' as as' → HeapOk K H' F' as' m' → Walks K J F' xs → R J H'
section
variable {X : Cx} {tg iter : Expr} {wi wi' : TI}
theorem PI_imp (h : PI X tg iter wi) (i : ∀ σ H R, wi' σ H R → wi σ H R) : PI X tg iter wi' := ⟨fun pins s σ H R I q => h.run pins s σ H R I (i σ H R q)⟩
theorem PI_or (h : PI X tg iter wi) (h' : PI X tg iter wi') : PI X tg iter (fun σ H R => wi σ H R ∨ wi' σ H R) := ⟨fun pins s σ H R I q => q.elim (h.run pins s σ H R I) (h'.run pins s σ H R I)⟩
end
def itemsOf : D → Option (List D)
  | .lst xs => some xs
  | .tup xs => some xs
  | _ => none
/-- a list or a tuple -/
def iSeq (f : Ex) : Ix := fun ρ m => (f ρ m).bind fun p => (frzE p.2 p.1).bind fun q => (itemsOf q.1).bind fun xs => some (xs, q.2)
section
variable {K : PySem.W.Frag} {F H : Hp} {as : Cs} {m : Store} {a : Addr} {vs : List V} {ds : List D}
theorem FSub.tup (s : FSub F H) (h : F a = some (.tup vs)) : H a = some (.tup vs) := by
  rcases s _ _ h with q | ⟨q, _⟩
  · exact q
  · cases q
theorem FSub.lst (s : FSub F H) (h : F a = some (.lst vs)) : H a = some (.lst vs) := by
  rcases s _ _ h with q | ⟨q, _⟩
  · exact q
  · cases q
theorem walks_list (h : F a = some (.lst vs)) (r : Reps K F vs ds) : Walks K (Itl K a) F ds := by
  intro F2 as2 m2 H2 x hp i
  have hH := hp.sub.lst (x _ _ h)
  have rl := r.length
  refine ⟨fun hi => ⟨vs, .of hH, by omega⟩, fun d h1 => ?_⟩
  obtain ⟨v, h2, h3⟩ := r.get h1
  refine ⟨⟨vs, v, .of hH, h2⟩, fun x' H' ⟨e1, e2⟩ => ?_⟩
  subst e1
  have e3 := e2 vs (.of hH)
  rw [h2] at e3
  cases e3
  exact ⟨F2, .refl hp.sub, h3.mono x⟩
theorem walks_tup (h : F a = some (.tup vs)) (r : Reps K F vs ds) : Walks K (Itt K a) F ds := by
  intro F2 as2 m2 H2 x hp i
  have hH := hp.sub.tup (x _ _ h)
  have rl := r.length
  refine ⟨fun hi => ⟨vs, .of hH, by omega⟩, fun d h1 => ?_⟩
  obtain ⟨v, h2, h3⟩ := r.get h1
  refine ⟨⟨vs, v, .of hH, h2⟩, fun x' H' ⟨e1, e2⟩ => ?_⟩
  subst e1
  have e3 := e2 vs (.of hH)
  rw [h2] at e3
  cases e3
  exact ⟨F2, .refl hp.sub, h3.mono x⟩
end
section
variable {X : Cx} {tg l : Expr} {f fa fb : Ex} {p pos : Pos}
theorem r_iter (h : PE X l (tE X.K f)) : PI X tg l (tI X.K (iSeq f)) := by
  refine PI_imp (PI_or (pi_list h) (pi_tup h)) fun σ H R h => ?_
  obtain ⟨ρ, m, F, as, xs, m', env, hp, hf, q⟩ := h
  obtain ⟨⟨e, m1⟩, h1, hf⟩ := bind2 hf
  obtain ⟨⟨d, m2⟩, h2, hf⟩ := bind2 hf
  obtain ⟨ds, h3, hf⟩ := bind2 hf
  cases hf
  cases d with
  | lst ds' =>
    cases h3
    refine .inl (estep env hp h1 fun v H1 F1 as1 x1 hp1 env1 r1 => ?_)
    obtain ⟨F2, x2, hp2, r2⟩ := frzE_ok hp1 r1 h2
    cases r2 with
    | lst e1 e2 e3 => exact ⟨_, rfl, ⟨_, .of (hp2.sub.lst e1)⟩, q _ H1 F2 as1 (x1.trans x2) hp2 (walks_list e1 e3)⟩
  | tup ds' =>
    cases h3
    refine .inr (estep env hp h1 fun v H1 F1 as1 x1 hp1 env1 r1 => ?_)
    obtain ⟨F2, x2, hp2, r2⟩ := frzE_ok hp1 r1 h2
    cases r2 with
    | tup e1 e2 e3 => exact ⟨_, rfl, ⟨_, .of (hp2.sub.tup e1)⟩, q _ H1 F2 as1 (x1.trans x2) hp2 (walks_tup e1 e3)⟩
  | _ => cases h3
def rangeE (lo : Int) (n : Nat) : List D := (List.range n).map fun (i : Nat) => .int (lo + (i : Int))
theorem rangeE_length (lo : Int) (n : Nat) : (rangeE lo n).length = n := by unfold rangeE; rw [List.length_map, List.length_range]
theorem walks_range {K : PySem.W.Frag} {F : Hp} (lo : Int) (n : Nat) : Walks K (Itr lo n) F (rangeE lo n) := by
  intro F2 as2 m2 H2 x hp i
  refine ⟨fun hi => by rw [rangeE_length] at hi; exact hi, fun e he => ?_⟩
  have hi : i < n := by rw [← rangeE_length lo n]; exact (List.getElem?_eq_some_iff.mp he).1
  refine ⟨hi, fun x' H' ⟨e1, e2⟩ => ?_⟩
  subst e1 e2
  refine ⟨F2, .refl hp.sub, ?_⟩
  unfold rangeE at he
  rw [List.getElem?_map, List.getElem?_range hi] at he
  cases he
  exact .int
def intOf (m : Store) (e : E) : Option Int := match look m e with
  | some (.int i) => some i
  | _ => none
theorem intOf_rep {K : PySem.W.Frag} {F H : Hp} {as : Cs} {m : Store} {v : V} {e : E} {i : Int} (x : HeapOk K H F as m) (r : RepE K F as v e) (h : intOf m e = some i) : v = .int i := by
  unfold intOf at h
  split at h
  · rename_i j e1
    cases h
    exact (look_rep x r e1).int
  · cases h
noncomputable def iRange1 (f : Ex) : Ix := fun ρ m => (f ρ m).bind fun p => (intOf p.2 p.1).bind fun n => if okP (-(big : Int) ≤ n ∧ n ≤ (big : Int)) = true then some (rangeE 0 n.toNat, p.2) else none
noncomputable def iRange2 (f g : Ex) : Ix := fun ρ m => (f ρ m).bind fun p => (g ρ p.2).bind fun q => (intOf q.2 p.1).bind fun a => (intOf q.2 q.1).bind fun b => if okP (-(big : Int) ≤ a ∧ a ≤ big ∧ -(big : Int) ≤ b ∧ b ≤ big) = true then some (rangeE a (b - a).toNat, q.2) else none
theorem r_range1 {a : Expr} (hg : Gl X "range") (hm : X.mg "range" = none) (ha : PE X a (tE X.K fa)) (hs : starEach [a] X.env = [(false, eval a X.env)] := by rfl) (hs0 : starEach [a] X.env = (false, eval a X.env) :: starEach [] X.env := by rfl) :
    PI X tg (.Call (.Name "range" p) [a] [] pos) (tI X.K (iRange1 fa)) := by
  refine PI_imp (pi_range1 hg hm (pa_cons ha pa_nil hs0) hs) fun σ H R h => ?_
  obtain ⟨ρ, m, F, as, xs, m', env, hp, hf, q⟩ := h
  obtain ⟨⟨e, m1⟩, h1, hf⟩ := bind2 hf
  obtain ⟨n, h2, hf⟩ := bind2 hf
  split at hf
  · rename_i z
    have z := of_okP z
    cases hf
    refine estep env hp h1 fun v H1 F1 as1 x1 hp1 env1 r1 => ?_
    have ev := intOf_rep hp1 r1 h2
    subst ev
    have hb : (big : Int) = 1000000 := rfl
    exact ⟨n, rfl, by omega, by omega, q _ H1 F1 as1 x1 hp1 (walks_range 0 n.toNat)⟩
  · cases hf
theorem r_range2 {a b : Expr} (hg : Gl X "range") (hm : X.mg "range" = none) (ha : PE X a (tE X.K fa)) (hb : PE X b (tE X.K fb)) (hs : starEach [a, b] X.env = [(false, eval a X.env), (false, eval b X.env)] := by rfl) (hs2 : starEach [b] X.env = [(false, eval b X.env)] := by rfl)
    (hsa : starEach [a, b] X.env = (false, eval a X.env) :: starEach [b] X.env := by rfl) (hs0 : starEach [b] X.env = (false, eval b X.env) :: starEach [] X.env := by rfl) :
    PI X tg (.Call (.Name "range" p) [a, b] [] pos) (tI X.K (iRange2 fa fb)) := by
  refine PI_imp (pi_range2 hg hm (pa_cons ha (pa_cons hb pa_nil hs0) hsa) hs hs2) fun σ H R h => ?_
  obtain ⟨ρ, m, F, as, xs, m', env, hp, hf, q⟩ := h
  obtain ⟨⟨e, m1⟩, h1, hf⟩ := bind2 hf
  obtain ⟨⟨e2, m2⟩, h2, hf⟩ := bind2 hf
  obtain ⟨i, h3, hf⟩ := bind2 hf
  obtain ⟨j, h4, hf⟩ := bind2 hf
  split at hf
  · rename_i z
    have z := of_okP z
    cases hf
    refine estep env hp h1 fun v H1 F1 as1 x1 hp1 env1 r1 => estep env1 hp1 h2 fun w H2 F2 as2 x2 hp2 env2 r2 => ?_
    have ev := intOf_rep hp2 (r1.ext x2) h3
    have ew := intOf_rep hp2 r2 h4
    subst ev ew
    have hb : (big : Int) = 1000000 := rfl
    exact ⟨i, j, rfl, ⟨by omega, by omega, by omega, by omega⟩, q _ H2 F2 as2 (x1.trans x2) hp2 (walks_range i (j - i).toNat)⟩
  · cases hf
end

/-! ### list comprehensions -/
def lcLoop (g : Tg) (tt : Tx) (te : Ex) (ρ : Rho) : List D → Store → Option (List D × Store)
  | [], m => some ([], m)
  | x :: xs, m => (g (.d x) ρ).bind fun ρ1 => (tt ρ1 m).bind fun b => if b.1 = true then (te ρ1 b.2).bind fun y => (frzE y.2 y.1).bind fun d => (lcLoop g tt te ρ xs d.2).bind fun r => some (d.1 :: r.1, r.2)
    else lcLoop g tt te ρ xs b.2
def eLc (it : Ix) (vs : List Nat) (g : Tg) (tt : Tx) (te : Ex) : Ex := fun ρ m => (it ρ m).bind fun p => (lcLoop g tt te (wipeE ρ vs) p.1 p.2).bind fun r => if r.1.length ≤ big then some (.d (.lst r.1), r.2) else none
def eLcO (it : Ix) (vs : List Nat) (g : Tg) (tt : Tx) (te : Ex) : Ex := fun ρ m => (it ρ m).bind fun p => (lcLoop g tt te (wipeE ρ vs) p.1 p.2).bind fun r => if r.1.length ≤ big then some (.own r.2.length, r.2 ++ [.lst r.1]) else none
def tTrue : Tx := fun _ m => some (true, m)
theorem wipe_get {σ : L2.St} {j : Nat} : ∀ {vs : List Nat}, j ∉ vs → (wipe σ vs)[j]? = σ[j]?
  | [], _ => rfl
  | v :: vs, h => by
    show ((wipe σ vs).set v none)[j]? = _
    rw [List.getElem?_set_ne (fun z => h (by rw [z]; exact List.mem_cons_self)), wipe_get (fun z => h (List.mem_cons_of_mem _ z))]
theorem wipe_at {σ : L2.St} {j : Nat} : ∀ {vs : List Nat}, j ∈ vs → j < σ.length → (wipe σ vs)[j]? = some none
  | v :: vs, h, hl => by
    show ((wipe σ vs).set v none)[j]? = _
    by_cases e : v = j
    · subst e
      rw [List.getElem?_set_self (by rw [wipe_length]; exact hl)]
    · rw [List.getElem?_set_ne e]
      rcases List.mem_cons.mp h with q | q
      · exact absurd q.symm e
      · exact wipe_at q hl
theorem wipe_eq {σ σ' : L2.St} {vs : List Nat} (hl : σ'.length = (wipe σ vs).length) (h : ∀ j : Nat, j ∉ vs → σ'[j]? = (wipe σ vs)[j]?) : wipe σ' vs = wipe σ vs := by
  refine List.ext_getElem? fun j => ?_
  rw [wipe_length] at hl
  by_cases hj : j ∈ vs
  · by_cases hs : j < σ.length
    · rw [wipe_at hj (by rw [hl]; exact hs), wipe_at hj hs]
    · rw [List.getElem?_eq_none (by rw [wipe_length]; omega), List.getElem?_eq_none (by rw [wipe_length]; omega)]
  · rw [wipe_get hj, h j hj]
theorem lcLoop_len {g : Tg} {tt : Tx} {te : Ex} {ρ : Rho} : ∀ {xs : List D} {m m' : Store} {ds : List D}, lcLoop g tt te ρ xs m = some (ds, m') → ds.length ≤ xs.length
  | [], _, _, _, h => by cases h; exact Nat.zero_le _
  | x :: xs, m, m', ds, h => by
    obtain ⟨ρ1, h1, h⟩ := bind2 h
    obtain ⟨⟨b, m1⟩, h2, h⟩ := bind2 h
    split at h
    · obtain ⟨⟨y, m2⟩, h3, h⟩ := bind2 h
      obtain ⟨⟨d, m3⟩, h4, h⟩ := bind2 h
      obtain ⟨⟨r, m4⟩, h5, h⟩ := bind2 h
      cases h
      exact Nat.succ_le_succ (lcLoop_len h5)
    · exact Nat.le_succ_of_le (lcLoop_len h)
/-- the new list at D while it is made: it is to stand -/
theorem lc_main {K : PySem.W.Frag} {J : It} {g : TG} {tg : Tg} {tt : Tx} {te : Ex} {vs : List Nat} {σ : L2.St} {H F : Hp} {as : Cs} {m m' : Store} {ρ : Rho} {xs : List D} {ds : List D} {L : Addr} {Q : VK}
    (hg : TgOk K g tg vs) (env : EnvOk K F as σ ρ) (hp : HeapOk K H F as m) (wk : Walks K J F xs) (hf : lcLoop tg tt te (wipeE ρ vs) xs m = some (ds, m')) (hb : ds.length ≤ big) (hD : H L = none)
    (q : ∀ (H' F' : Hp) (c' : List Addr) (vs' : List V), Same F F' → as.c <+: c' → Reps K F' vs' ds → HeapOk K H' F' ⟨c', (L, .lst vs') :: as.g⟩ m' → Q (.ref L) H') :
    ∃ W : Nat → Nat → Hp → Prop, (∃ n, W 0 n (upd H L (.lst []))) ∧ ∀ i n H, W i n H →
  (J.stop i H ∧ Q (.ref L) H) ∨ (J.go i H ∧ ∃ Nx : Hp → Prop, (∀ H', Nx H' → ∃ n', n' < n ∧ W (i + 1) n' H') ∧ ∀ x H', J.yld i H x H' → g x (wipe σ vs) H' fun σ2 H2 => wipe σ2 vs = wipe σ vs ∧ tT K tt σ2 H2 fun b H3 =>
    if b = true then tE K te σ2 H3 fun y H4 => ∃ acc, H4 L = some (.lst acc) ∧ acc.length < sizeLine ∧ Nx (upd H4 L (.lst (acc ++ [y]))) else Nx H3) := by
  refine ⟨fun i n H1 => n = xs.length - i ∧ i ≤ xs.length ∧ ∃ (F1 : Hp) (c1 : List Addr) (m1 : Store) (acc : List V) (d1 d2 : List D), Same F F1 ∧ as.c <+: c1 ∧ Reps K F1 acc d1 ∧ HeapOk K H1 F1 ⟨c1, (L, .lst acc) :: as.g⟩ m1 ∧ lcLoop tg tt te (wipeE ρ vs) (xs.drop i) m1 = some (d2, m') ∧ ds = d1 ++ d2,
    ⟨_, rfl, Nat.zero_le _, F, as.c, m, [], [], ds, Same.refl F, List.prefix_refl _, .nil, ?_, hf, rfl⟩, ?_⟩
  · have ne : ∀ a, H a ≠ none → a ≠ L := fun a q z => q (by rw [z]; exact hD)
    have nc : L ∉ as.c := fun z => hp.there L z hD
    refine ⟨fun a u q => by rw [upd_ne (ne a (hp.sub.there q))]; exact hp.sub a u q, hp.len, hp.nd, fun a q => by rw [upd_ne (ne a (hp.there a q))]; exact hp.there a q, fun c a u q1 q2 => ?_, fun p hq => ?_, ?_⟩
    rotate_left 2
    · show (L :: as.g.map (·.1)).Nodup
      refine List.nodup_cons.mpr ⟨fun z => ?_, hp.pnd⟩
      obtain ⟨p, hq, e⟩ := List.mem_map.mp z
      have e1 := (hp.prot p hq).1
      rw [e, hD] at e1
      cases e1
    · have na := ne a (hp.there a (List.mem_of_getElem? q1))
      have z := hp.cell c a u q1 q2
      cases u with
      | lst ds => obtain ⟨y1, z, vs, y2, y3⟩ := z; exact ⟨y1, z, vs, by rw [upd_ne na]; exact y2, y3⟩
      | dic ds => obtain ⟨y1, vs, y2, y3⟩ := z; exact ⟨y1, vs, by rw [upd_ne na]; exact y2, y3⟩
      | dicT ds => obtain ⟨y1, vs, y2, y3⟩ := z; exact ⟨y1, vs, by rw [upd_ne na]; exact y2, y3⟩
      | frz d => exact z
    · rcases List.mem_cons.mp hq with rfl | hq
      · exact ⟨upd_same, hp.sub.free hD, nc⟩
      · obtain ⟨p1, p2, p3⟩ := hp.prot p hq
        exact ⟨by rw [upd_ne (ne p.1 (by rw [p1]; simp))]; exact p1, p2, p3⟩
  · rintro i n H1 ⟨rfl, hi, F1, c1, m1, acc, d1, d2, s1, pc, ra, hp1, hl, eds⟩
    obtain ⟨w1, w2⟩ := wk F1 _ m1 H1 s1 hp1 i
    by_cases hlt : i < xs.length
    · obtain ⟨hgo, hy⟩ := w2 xs[i] (List.getElem?_eq_getElem hlt)
      refine .inr ⟨hgo, fun H' => ∃ (F1 : Hp) (c1 : List Addr) (m1 : Store) (acc : List V) (d1 d2 : List D), Same F F1 ∧ as.c <+: c1 ∧ Reps K F1 acc d1 ∧ HeapOk K H' F1 ⟨c1, (L, .lst acc) :: as.g⟩ m1 ∧ lcLoop tg tt te (wipeE ρ vs) (xs.drop (i + 1)) m1 = some (d2, m') ∧ ds = d1 ++ d2,
        fun H' h => ⟨_, by omega, rfl, hlt, h⟩, fun x H' hx => ?_⟩
      obtain ⟨F2, gr, rx⟩ := hy x H' hx
      have hp2 := hp1.grow gr
      have s2 := gr.same hp1.sub
      have env2 : EnvOk K F2 ⟨c1, (L, .lst acc) :: as.g⟩ (wipe σ vs) (wipeE ρ vs) := by
        refine ⟨(env.wipe vs).len, fun j e h => ?_⟩
        obtain ⟨v, a, b⟩ := (env.wipe vs).get j e h
        refine ⟨v, a, ?_⟩
        have sm := s1.trans s2
        cases b with
        | d r => exact .d (r.mono sm)
        | own r => exact .own (pre_get pc r)
        | deal d1 d2 z d3 => exact .deal (sm _ _ d1) (sm _ _ d2) z (pre_get pc d3)
      rw [List.drop_eq_getElem_cons hlt] at hl
      obtain ⟨ρ1, h1, hl⟩ := bind2 hl
      obtain ⟨⟨b, m2⟩, h2, hl⟩ := bind2 hl
      refine hg.run env2 hp2 (.d rx) h1 fun σ' env3 l3 s3 => ⟨wipe_eq l3 s3, ?_⟩
      refine tstep env3 hp2 h2 fun H3 F3 as3 x3 hp3 env4 => ?_
      obtain ⟨c3, g3⟩ := as3
      obtain ⟨x31, x32, x33⟩ := x3
      have eg : g3 = (L, .lst acc) :: as.g := x33
      subst eg
      cases b with
      | false =>
        exact ⟨F3, c3, m2, acc, d1, d2, (s1.trans s2).trans x31, pc.trans x32, (ra.mono s2).mono x31, hp3, hl, eds⟩
      | true =>
        obtain ⟨⟨y, m3⟩, h3, hl⟩ := bind2 hl
        obtain ⟨⟨d, m4⟩, h4, hl⟩ := bind2 hl
        obtain ⟨⟨r, m5⟩, h5, hl⟩ := bind2 hl
        cases hl
        refine estep env4 hp3 h3 fun yv H4 F4 as4 x4 hp4 env5 ry => ?_
        obtain ⟨c4, g4⟩ := as4
        obtain ⟨x41, x42, x43⟩ := x4
        have eg : g4 = (L, .lst acc) :: as.g := x43
        subst eg
        obtain ⟨F5, x5, hp5, rd⟩ := frzE_ok hp4 ry h4
        have sF : Same F1 F5 := ((s2.trans x31).trans x41).trans x5.1
        have pr := hp5.prot (L, .lst acc) List.mem_cons_self
        have lenA : acc.length = d1.length := ra.length
        have lenB : d1.length < ds.length := by rw [eds, List.length_append, List.length_cons]; omega
        refine ⟨acc, pr.1, Nat.lt_of_lt_of_le (by rw [lenA]; exact lenB) (big_le hb), F5, c4, m4, acc ++ [yv], d1 ++ [d], r, s1.trans sF, (pc.trans x32).trans x42, (ra.mono sF).append (.cons rd .nil), ?_, h5, by rw [eds]; simp⟩
        refine ⟨fun a u q => ?_, hp5.len, hp5.nd, fun a q => ?_, fun c a u q1 q2 => ?_, fun p hq => ?_, hp5.pnd⟩
        · rw [upd_ne (fun z => by rw [z, pr.2.1] at q; cases q)]; exact hp5.sub a u q
        · rw [upd_ne (fun z => pr.2.2 (by rw [← z]; exact q))]; exact hp5.there a q
        · have na : a ≠ L := fun z => pr.2.2 (by rw [← z]; exact List.mem_of_getElem? q1)
          have z := hp5.cell c a u q1 q2
          cases u with
          | lst ds => obtain ⟨y1, z, vs, y2, y3⟩ := z; exact ⟨y1, z, vs, by rw [upd_ne na]; exact y2, y3⟩
          | dic ds => obtain ⟨y1, vs, y2, y3⟩ := z; exact ⟨y1, vs, by rw [upd_ne na]; exact y2, y3⟩
          | dicT ds => obtain ⟨y1, vs, y2, y3⟩ := z; exact ⟨y1, vs, by rw [upd_ne na]; exact y2, y3⟩
          | frz d => exact z
        · rcases List.mem_cons.mp hq with rfl | hq
          · exact ⟨upd_same, pr.2.1, pr.2.2⟩
          · obtain ⟨p1, p2, p3⟩ := hp5.prot p (List.mem_cons_of_mem _ hq)
            have np : p.1 ≠ L := fun z => by
              have e := (hp.prot p hq).1
              rw [z, hD] at e
              cases e
            exact ⟨by rw [upd_ne np]; exact p1, p2, p3⟩
    · have e : i = xs.length := by omega
      subst e
      rw [List.drop_length] at hl
      cases hl
      rw [List.append_nil] at eds
      subst eds
      exact .inl ⟨w1 (Nat.le_refl _), q H1 F1 c1 acc s1 pc ra hp1⟩

section
variable {K : PySem.W.Frag} {F F' H H' : Hp} {c : List Addr} {g : List (Addr × HO)} {m : Store} {L : Addr} {vs : List V} {ds : List D}
/-- the made list becomes data, or a cell -/
theorem made_frz (hp : HeapOk K H F ⟨c, (L, .lst vs) :: g⟩ m) (r : Reps K F vs ds) (hb : ds.length ≤ big) : Same F (upd F L (.lst vs)) ∧ HeapOk K H (upd F L (.lst vs)) ⟨c, g⟩ m ∧ Rep K (upd F L (.lst vs)) (.ref L) (.lst ds) := by
  obtain ⟨p1, p2, p3⟩ := hp.prot (L, .lst vs) List.mem_cons_self
  have sm : Same F (upd F L (.lst vs)) := Same.updF p2
  refine ⟨sm, ⟨fun b u q => ?_, hp.len, hp.nd, hp.there, fun c' b u q1 q2 => ?_, fun p hq => ?_, (List.nodup_cons.mp hp.pnd).2⟩, .lst upd_same (by rw [r.length]; exact big_le hb) (r.mono sm)⟩
  · by_cases e : b = L
    · subst e
      rw [upd_same] at q
      cases q
      exact .inl p1
    · rw [upd_ne e] at q
      exact hp.sub b u q
  · have nb : b ≠ L := fun z => p3 (by rw [← z]; exact List.mem_of_getElem? q1)
    have y := hp.cell c' b u q1 q2
    cases u with
    | lst ds => obtain ⟨y1, z, vs, y2, y3⟩ := y; exact ⟨by rw [upd_ne nb]; exact y1, z, vs, y2, y3.mono sm⟩
    | dic ds => obtain ⟨y1, vs, y2, y3⟩ := y; exact ⟨by rw [upd_ne nb]; exact y1, vs, y2, y3.mono sm⟩
    | dicT ds => obtain ⟨y1, vs, y2, y3⟩ := y; exact ⟨by rw [upd_ne nb]; exact y1, vs, y2, y3.mono sm⟩
    | frz d' => exact Rep.mono sm y
  · obtain ⟨q1, q2, q3⟩ := hp.prot p (List.mem_cons_of_mem _ hq)
    exact ⟨q1, by rw [upd_ne (fun z => (List.nodup_cons.mp hp.pnd).1 (List.mem_map.mpr ⟨p, hq, z⟩))]; exact q2, q3⟩
theorem made_own (hp : HeapOk K H F ⟨c, (L, .lst vs) :: g⟩ m) (r : Reps K F vs ds) (hb : ds.length ≤ big) : HeapOk K H F ⟨c ++ [L], g⟩ (m ++ [.lst ds]) := by
  obtain ⟨p1, p2, p3⟩ := hp.prot (L, .lst vs) List.mem_cons_self
  have hl : c.length = m.length := hp.len
  refine ⟨hp.sub, by show (c ++ [L]).length = _; rw [List.length_append, List.length_append, hl]; rfl, ?_, fun a q => ?_, fun c' b u q1 q2 => ?_, fun p hq => ?_, (List.nodup_cons.mp hp.pnd).2⟩
  · show (c ++ [L]).Nodup
    rw [List.nodup_append]
    refine ⟨hp.nd, by simp, fun a ha b hb => ?_⟩
    have e : b = L := by simpa using hb
    rw [e]
    exact fun z => p3 (by rw [← z]; exact ha)
  · rcases List.mem_append.mp q with q | q
    · exact hp.there a q
    · have e : a = L := by simpa using q
      rw [e, p1]; simp
  · have q1 : (c ++ [L])[c']? = some b := q1
    by_cases hc : c' < c.length
    · rw [List.getElem?_append_left hc] at q1
      rw [List.getElem?_append_left (by rw [← hl]; exact hc)] at q2
      exact hp.cell c' b u q1 q2
    · rw [List.getElem?_append_right (by omega)] at q1
      rw [List.getElem?_append_right (by rw [← hl]; omega)] at q2
      rw [← hl] at q2
      cases k : c' - c.length with
      | zero =>
        rw [k] at q1 q2
        simp at q1 q2
        subst q1 q2
        exact ⟨p2, big_le hb, vs, p1, r⟩
      | succ j => rw [k] at q1; simp at q1
  · obtain ⟨q1, q2, q3⟩ := hp.prot p (List.mem_cons_of_mem _ hq)
    refine ⟨q1, q2, fun z => ?_⟩
    rcases List.mem_append.mp z with z | z
    · exact q3 z
    · exact (List.nodup_cons.mp hp.pnd).1 (List.mem_map.mpr ⟨p, hq, by simpa using z⟩)
end
section
variable {X : Cx} {elt tg iter : Expr} {ifs : List Expr} {scope : Scope} {own : List (Str × Nat)} {pos : Pos} {it : Ix} {g : TG} {tgm : Tg} {tt : Tx} {te : Ex}
theorem lc_read (hg : TgOk X.K g tgm (own.map (·.2))) : ∀ σ H Q, tE X.K (eLc it (own.map (·.2)) tgm tt te) σ H Q → tLc (tI X.K it) g (tT X.K tt) (tE X.K te) (own.map (·.2)) σ H Q := by
  intro σ H Q h
  obtain ⟨ρ, m, F, as, e, m', env, hp, hf, q⟩ := h
  obtain ⟨⟨xs, m1⟩, h1, hf⟩ := bind2 hf
  obtain ⟨⟨ds, m2⟩, h2, hf⟩ := bind2 hf
  split at hf
  · rename_i z
    cases hf
    refine ⟨ρ, m, F, as, xs, m1, env, hp, h1, fun J H1 F1 as1 x1 hp1 wk L hL => ?_⟩
    refine lc_main hg (env.ext x1) hp1 wk h2 z hL fun H2 F2 c2 vs2 s2 p2 r2 hp2 => ?_
    obtain ⟨s3, hp3, r3⟩ := made_frz hp2 r2 z
    exact q _ _ _ ⟨c2, as1.g⟩ (x1.trans ⟨s2.trans s3, p2, rfl⟩) hp3 (.d r3)
  · cases hf
theorem lcO_read (hg : TgOk X.K g tgm (own.map (·.2))) : ∀ σ H Q, tE X.K (eLcO it (own.map (·.2)) tgm tt te) σ H Q → tLc (tI X.K it) g (tT X.K tt) (tE X.K te) (own.map (·.2)) σ H Q := by
  intro σ H Q h
  obtain ⟨ρ, m, F, as, e, m', env, hp, hf, q⟩ := h
  obtain ⟨⟨xs, m1⟩, h1, hf⟩ := bind2 hf
  obtain ⟨⟨ds, m2⟩, h2, hf⟩ := bind2 hf
  split at hf
  · rename_i z
    cases hf
    refine ⟨ρ, m, F, as, xs, m1, env, hp, h1, fun J H1 F1 as1 x1 hp1 wk L hL => ?_⟩
    refine lc_main hg (env.ext x1) hp1 wk h2 z hL fun H2 F2 c2 vs2 s2 p2 r2 hp2 => ?_
    refine q _ _ _ ⟨c2 ++ [L], as1.g⟩ (x1.trans ⟨s2, p2.trans (pre_snoc _ _), rfl⟩) (made_own hp2 r2 z) (.own ?_)
    have e := hp2.len
    show (c2 ++ [L])[m2.length]? = some L
    rw [← e]
    simp
  · cases hf
end

/-! ### statements -/
inductive Fl where
  | nx | bk | ct | rt (e : E)
abbrev Sx := Rho → Store → Option (Fl × Rho × Store)
def EndOk (K : PySem.W.Frag) (F : Hp) (as : Cs) (D : Ends) (fl : Fl) (ρ' : Rho) (m' : Store) : Prop := match fl with
  | .nx => ∀ σ' H' F' as', Ext F F' as as' → EnvOk K F' as' σ' ρ' → HeapOk K H' F' as' m' → D.nx σ' H'
  | .bk => ∀ σ' H' F' as', Ext F F' as as' → EnvOk K F' as' σ' ρ' → HeapOk K H' F' as' m' → D.bk σ' H'
  | .ct => ∀ σ' H' F' as', Ext F F' as as' → EnvOk K F' as' σ' ρ' → HeapOk K H' F' as' m' → D.ct σ' H'
  | .rt e => ∀ v H' F' as', Ext F F' as as' → RepE K F' as' v e → HeapOk K H' F' as' m' → D.rt v H'
def tS (K : PySem.W.Frag) (f : Sx) : TS := fun D σ H => ∃ ρ m F as fl ρ' m', EnvOk K F as σ ρ ∧ HeapOk K H F as m ∧ f ρ m = some (fl, ρ', m') ∧ EndOk K F as D fl ρ' m'
theorem EndOk.ext {K : PySem.W.Frag} {F F' : Hp} {as as' : Cs} {D : Ends} {fl : Fl} {ρ' : Rho} {m' : Store} (x : Ext F F' as as') (h : EndOk K F as D fl ρ' m') : EndOk K F' as' D fl ρ' m' := by
  cases fl with
  | nx => exact fun σ' H' F2 as2 x2 => h σ' H' F2 as2 (x.trans x2)
  | bk => exact fun σ' H' F2 as2 x2 => h σ' H' F2 as2 (x.trans x2)
  | ct => exact fun σ' H' F2 as2 x2 => h σ' H' F2 as2 (x.trans x2)
  | rt e => exact fun v H' F2 as2 x2 => h v H' F2 as2 (x.trans x2)
def sNil : Sx := fun ρ m => some (.nx, ρ, m)
def sSeq (f g : Sx) : Sx := fun ρ m => (f ρ m).bind fun r => match r.1 with
  | .nx => g r.2.1 r.2.2
  | _ => some r
def sIf (t : Tx) (f g : Sx) : Sx := fun ρ m => (t ρ m).bind fun b => if b.1 = true then f ρ b.2 else g ρ b.2
def sAsg (f : Ex) (tg : Tg) : Sx := fun ρ m => (f ρ m).bind fun p => (tg p.1 ρ).bind fun ρ' => some (.nx, ρ', p.2)
def sSet (i : Nat) (f : Ex) : Sx := sAsg f (tgName i)
def sExp (f : Ex) : Sx := fun ρ m => (f ρ m).bind fun p => some (.nx, ρ, p.2)
def sRet (f : Ex) : Sx := fun ρ m => (f ρ m).bind fun p => some (.rt p.1, ρ, p.2)
def sRetN : Sx := fun ρ m => some (.rt (.d .non), ρ, m)
def sBrk : Sx := fun ρ m => some (.bk, ρ, m)
def sCnt : Sx := fun ρ m => some (.ct, ρ, m)
def forL (tg : Tg) (body : Sx) : List D → Sx
  | [], ρ, m => some (.nx, ρ, m)
  | x :: xs, ρ, m => (tg (.d x) ρ).bind fun ρ1 => (body ρ1 m).bind fun r => match r.1 with
    | .nx => forL tg body xs r.2.1 r.2.2
    | .ct => forL tg body xs r.2.1 r.2.2
    | .bk => some (.nx, r.2.1, r.2.2)
    | .rt e => some (.rt e, r.2.1, r.2.2)
def sFor (it : Ix) (tg : Tg) (body : Sx) : Sx := fun ρ m => (it ρ m).bind fun p => forL tg body p.1 ρ p.2
def whileF (t : Tx) (body : Sx) : Nat → Sx
  | 0, _, _ => none
  | n + 1, ρ, m => (t ρ m).bind fun b => if b.1 = true then (body ρ b.2).bind fun r => match r.1 with
    | .nx => whileF t body n r.2.1 r.2.2
    | .ct => whileF t body n r.2.1 r.2.2
    | .bk => some (.nx, r.2.1, r.2.2)
    | .rt e => some (.rt e, r.2.1, r.2.2)
    else some (.nx, ρ, b.2)
/-- a while that ends within some number of turns -/
def sWhile (N : Nat) (t : Tx) (body : Sx) : Sx := whileF t body N
section
variable {X : Cx} {st : Stmt} {rest : List Stmt} {f g : Sx} {t t' : TS} {e c : Expr} {fe : Ex} {ft : Tx} {pos pos' : Pos}
theorem PS_imp (h : PS X st t) (i : ∀ D σ H, t' D σ H → t D σ H) : PS X st t' := ⟨fun pins s σ H D I q => h.run pins s σ H D I (i D σ H q)⟩
theorem PSs_imp (h : PSs X rest t) (i : ∀ D σ H, t' D σ H → t D σ H) : PSs X rest t' := ⟨fun pins s σ H D I q => h.run pins s σ H D I (i D σ H q)⟩
theorem r_nil : PSs X [] (tS X.K sNil) := PSs_imp pss_nil fun D σ H h => by
  obtain ⟨ρ, m, F, as, fl, ρ', m', env, hp, hf, q⟩ := h
  cases hf
  exact q σ H F as .refl env hp
theorem seq_read : ∀ D σ H, tS X.K (sSeq f g) D σ H → tSeq (tS X.K f) (tS X.K g) D σ H := by
  intro D σ H h
  obtain ⟨ρ, m, F, as, fl, ρ', m', env, hp, hf, q⟩ := h
  obtain ⟨⟨fl1, ρ1, m1⟩, h1, hf⟩ := bind2 hf
  refine ⟨ρ, m, F, as, fl1, ρ1, m1, env, hp, h1, ?_⟩
  cases fl1 with
  | nx => exact fun σ' H' F' as' x env' hp' => ⟨ρ1, m1, F', as', fl, ρ', m', env', hp', hf, q.ext x⟩
  | bk => cases hf; exact q
  | ct => cases hf; exact q
  | rt e => cases hf; exact q
theorem r_cons (h1 : PS X st (tS X.K f)) (h2 : PSs X rest (tS X.K g)) : PSs X (st :: rest) (tS X.K (sSeq f g)) := PSs_imp (pss_cons h1 h2) seq_read
theorem r_one (h1 : PS X st (tS X.K f)) : PSs X [st] (tS X.K f) := pss_one h1
theorem r_ifS {a b : List Stmt} (hc : PT X c (tT X.K ft)) (ha : PSs X a (tS X.K f)) (hb : PSs X b (tS X.K g)) : PS X (.If c a b pos) (tS X.K (sIf ft f g)) := PS_imp (ps_if hc ha hb) fun D σ H h => by
  obtain ⟨ρ, m, F, as, fl, ρ', m', env, hp, hf, q⟩ := h
  obtain ⟨⟨b, m1⟩, h1, hf⟩ := bind2 hf
  refine tstep env hp h1 fun H1 F1 as1 x1 hp1 env1 => ?_
  cases b with
  | true => exact ⟨ρ, m1, F1, as1, fl, ρ', m', env1, hp1, hf, q.ext x1⟩
  | false => exact ⟨ρ, m1, F1, as1, fl, ρ', m', env1, hp1, hf, q.ext x1⟩
theorem asg_read {gt : TG} {tg : Tg} {vs : List Nat} (hg : TgOk X.K gt tg vs) : ∀ D σ H, tS X.K (sAsg fe tg) D σ H → tAsg (tE X.K fe) gt D σ H := by
  intro D σ H h
  obtain ⟨ρ, m, F, as, fl, ρ', m', env, hp, hf, q⟩ := h
  obtain ⟨⟨e, m1⟩, h1, hf⟩ := bind2 hf
  obtain ⟨ρ1, h2, hf⟩ := bind2 hf
  cases hf
  exact estep env hp h1 fun v H1 F1 as1 x1 hp1 env1 r1 => hg.run env1 hp1 r1 h2 fun σ' env2 _ _ => q σ' H1 F1 as1 x1 env2 hp1
theorem r_expr (he : PE X e (tE X.K fe)) (hs : swapsWith e none pos.line X.env = pure false := by rfl) : PS X (.Expr e pos) (tS X.K (sExp fe)) := PS_imp (ps_expr he hs) fun D σ H h => by
  obtain ⟨ρ, m, F, as, fl, ρ', m', env, hp, hf, q⟩ := h
  obtain ⟨⟨e, m1⟩, h1, hf⟩ := bind2 hf
  cases hf
  exact estep env hp h1 fun v H1 F1 as1 x1 hp1 env1 r1 => q σ H1 F1 as1 x1 env1 hp1
theorem r_ret (he : PE X e (tE X.K fe)) : PS X (.Return (some e) pos) (tS X.K (sRet fe)) := PS_imp (ps_ret he) fun D σ H h => by
  obtain ⟨ρ, m, F, as, fl, ρ', m', env, hp, hf, q⟩ := h
  obtain ⟨⟨e, m1⟩, h1, hf⟩ := bind2 hf
  cases hf
  exact estep env hp h1 fun v H1 F1 as1 x1 hp1 env1 r1 => q v H1 F1 as1 x1 r1 hp1
theorem r_retN : PS X (.Return none pos) (tS X.K sRetN) := PS_imp ps_retN fun D σ H h => by
  obtain ⟨ρ, m, F, as, fl, ρ', m', env, hp, hf, q⟩ := h
  cases hf
  exact q .non H F as .refl (.d .non) hp
theorem r_brk : PS X (.Break pos) (tS X.K sBrk) := PS_imp ps_break fun D σ H h => by
  obtain ⟨ρ, m, F, as, fl, ρ', m', env, hp, hf, q⟩ := h
  cases hf
  exact q σ H F as .refl env hp
theorem r_cnt : PS X (.Continue pos) (tS X.K sCnt) := PS_imp ps_continue fun D σ H h => by
  obtain ⟨ρ, m, F, as, fl, ρ', m', env, hp, hf, q⟩ := h
  cases hf
  exact q σ H F as .refl env hp
theorem for_read {it : Ix} {gt : TG} {tg : Tg} {vs : List Nat} {body : Sx} (hg : TgOk X.K gt tg vs) : ∀ D σ H, tS X.K (sFor it tg body) D σ H → tFor (tI X.K it) gt (tS X.K body) D σ H := by
  intro D σ H h
  obtain ⟨ρ, m, F, as, fl, ρ', m', env, hp, hf, q⟩ := h
  obtain ⟨⟨xs, m1⟩, h1, hf⟩ := bind2 hf
  refine ⟨ρ, m, F, as, xs, m1, env, hp, h1, fun J H1 F1 as1 x1 hp1 wk => ?_⟩
  have q1 := q.ext x1
  refine ⟨fun i n σ2 H2 => n = xs.length - i ∧ i ≤ xs.length ∧ ∃ F2 as2 ρ2 m2, Ext F1 F2 as1 as2 ∧ EnvOk X.K F2 as2 σ2 ρ2 ∧ HeapOk X.K H2 F2 as2 m2 ∧ forL tg body (xs.drop i) ρ2 m2 = some (fl, ρ', m'),
    ⟨_, rfl, Nat.zero_le _, F1, as1, ρ, m1, .refl, env.ext x1, hp1, hf⟩, ?_⟩
  rintro i n σ2 H2 ⟨rfl, hi, F2, as2, ρ2, m2, x2, env2, hp2, hl⟩
  obtain ⟨w1, w2⟩ := wk F2 as2 m2 H2 x2.1 hp2 i
  by_cases hlt : i < xs.length
  · obtain ⟨hgo, hy⟩ := w2 xs[i] (List.getElem?_eq_getElem hlt)
    refine .inr ⟨hgo, fun σ3 H3 => ∃ F3 as3 ρ3 m3, Ext F1 F3 as1 as3 ∧ EnvOk X.K F3 as3 σ3 ρ3 ∧ HeapOk X.K H3 F3 as3 m3 ∧ forL tg body (xs.drop (i + 1)) ρ3 m3 = some (fl, ρ', m'),
      fun σ3 H3 h => ⟨_, by omega, rfl, hlt, h⟩, fun x H' hx => ?_⟩
    obtain ⟨F3, gr, rx⟩ := hy x H' hx
    have hp3 := hp2.grow gr
    have x3 := hp2.ext gr
    rw [List.drop_eq_getElem_cons hlt] at hl
    obtain ⟨ρ3, h3, hl⟩ := bind2 hl
    obtain ⟨⟨fl4, ρ4, m4⟩, h4, hl⟩ := bind2 hl
    refine hg.run (env2.ext x3) hp3 (.d rx) h3 fun σ' env4 _ _ => ⟨ρ3, m2, F3, as2, fl4, ρ4, m4, env4, hp3, h4, ?_⟩
    have x23 := x2.trans x3
    cases fl4 with
    | nx => exact fun σ5 H5 F5 as5 x5 env5 hp5 => ⟨F5, as5, ρ4, m4, x23.trans x5, env5, hp5, hl⟩
    | ct => exact fun σ5 H5 F5 as5 x5 env5 hp5 => ⟨F5, as5, ρ4, m4, x23.trans x5, env5, hp5, hl⟩
    | bk =>
      cases hl
      exact fun σ5 H5 F5 as5 x5 env5 hp5 => q1 σ5 H5 F5 as5 (x23.trans x5) env5 hp5
    | rt e =>
      cases hl
      exact fun v H5 F5 as5 x5 r5 hp5 => q1 v H5 F5 as5 (x23.trans x5) r5 hp5
  · have e : i = xs.length := by omega
    subst e
    rw [List.drop_length] at hl
    cases hl
    exact .inl ⟨w1 (Nat.le_refl _), q1 σ2 H2 F2 as2 x2 env2 hp2⟩
theorem while_read {N : Nat} {body : Sx} : ∀ D σ H, tS X.K (sWhile N ft body) D σ H → tWhile (tT X.K ft) (tS X.K body) D σ H := by
  intro D σ H h
  obtain ⟨ρ, m, F, as, fl, ρ', m', env, hp, hf, q⟩ := h
  refine ⟨fun n σ2 H2 => ∃ F2 as2 ρ2 m2, Ext F F2 as as2 ∧ EnvOk X.K F2 as2 σ2 ρ2 ∧ HeapOk X.K H2 F2 as2 m2 ∧ whileF ft body n ρ2 m2 = some (fl, ρ', m'), ⟨N, F, as, ρ, m, .refl, env, hp, hf⟩, ?_⟩
  rintro n σ2 H2 ⟨F2, as2, ρ2, m2, x2, env2, hp2, hl⟩
  cases n with
  | zero => cases hl
  | succ n =>
    obtain ⟨⟨b, m3⟩, h3, hl⟩ := bind2 hl
    refine tstep env2 hp2 h3 fun H3 F3 as3 x3 hp3 env3 => ?_
    have x23 := x2.trans x3
    cases b with
    | false =>
      cases hl
      exact q σ2 H3 F3 as3 x23 env3 hp3
    | true =>
      obtain ⟨⟨fl4, ρ4, m4⟩, h4, hl⟩ := bind2 hl
      refine ⟨fun σ5 H5 => ∃ F5 as5 ρ5 m5, Ext F F5 as as5 ∧ EnvOk X.K F5 as5 σ5 ρ5 ∧ HeapOk X.K H5 F5 as5 m5 ∧ whileF ft body n ρ5 m5 = some (fl, ρ', m'), fun σ5 H5 h => ⟨n, Nat.lt_succ_self n, h⟩, ρ2, m3, F3, as3, fl4, ρ4, m4, env3, hp3, h4, ?_⟩
      cases fl4 with
      | nx => exact fun σ5 H5 F5 as5 x5 env5 hp5 => ⟨F5, as5, ρ4, m4, x23.trans x5, env5, hp5, hl⟩
      | ct => exact fun σ5 H5 F5 as5 x5 env5 hp5 => ⟨F5, as5, ρ4, m4, x23.trans x5, env5, hp5, hl⟩
      | bk =>
        cases hl
        exact fun σ5 H5 F5 as5 x5 env5 hp5 => q σ5 H5 F5 as5 (x23.trans x5) env5 hp5
      | rt e =>
        cases hl
        exact fun v H5 F5 as5 x5 r5 hp5 => q v H5 F5 as5 (x23.trans x5) r5 hp5
end
end PL
/-! PL5: functions, calls, built-ins. -/
namespace PL
open PySem PySem.Spec L2
set_option autoImplicit false

abbrev Fx := List E → Store → Option (E × Store)
/-- a callee's cells are dropped; a list or dict of its own that it hands back is data from now on -/
def fin (n : Nat) (m' : Store) : E → Option (E × Store)
  | .d x => some (.d x, m'.take n)
  | .own c => if c < n then some (.own c, m'.take n) else (look m' (.own c)).map fun d => (.d d, m'.take n)
  | .deal row c t => if c < n then some (.deal row c t, m'.take n) else (m'[c]?).map fun o => (.deal row n t, m'.take n ++ [o])
def fnD (n k : Nat) (body : Sx) : Fx := fun es m => if es.length = n then (body (es.map some ++ List.replicate k none) m).bind fun r => match r.1 with
  | .rt e => fin m.length r.2.2 e
  | .nx => some (.d .non, r.2.2.take m.length)
  | _ => none else none
def spD (K : PySem.W.Frag) (n : Nat) (f : Fx) : Sp := fun vs H Q _ => vs.length = n ∧ ∃ es m F as e m', RepEs K F as vs es ∧ HeapOk K H F as m ∧ f es m = some (e, m') ∧
  ∀ v H' F' as', Ext F F' as as' → HeapOk K H' F' as' m' → RepE K F' as' v e → Q v H'

section
variable {K : PySem.W.Frag} {F F' H H' : Hp} {as as' : Cs} {m m' : Store} {c0 : List Addr} {v : V} {e : E}
theorem HeapOk.take (hp : HeapOk K H F as m) (pc : c0 <+: as.c) : HeapOk K H F ⟨c0, as.g⟩ (m.take c0.length) := by
  obtain ⟨t, et⟩ := pc
  have hl := hp.len
  rw [← et, List.length_append] at hl
  have get : ∀ (i : Nat) (a : Addr), c0[i]? = some a → as.c[i]? = some a := fun i a q => by
    rw [← et, List.getElem?_append_left (List.getElem?_eq_some_iff.mp q).1]; exact q
  have mem : ∀ a ∈ c0, a ∈ as.c := fun a q => by rw [← et]; exact List.mem_append_left _ q
  refine ⟨hp.sub, by show c0.length = _; rw [List.length_take]; omega, ?_, fun a q => hp.there a (mem a q), fun i a o q1 q2 => ?_, fun p hq => ?_, hp.pnd⟩
  · have nd := hp.nd
    rw [← et] at nd
    exact (List.nodup_append.mp nd).1
  · have hi : i < c0.length := (List.getElem?_eq_some_iff.mp q1).1
    rw [List.getElem?_take_of_lt hi] at q2
    exact hp.cell i a o (get i a q1) q2
  · obtain ⟨p1, p2, p3⟩ := hp.prot p hq
    exact ⟨p1, p2, fun z => p3 (mem _ z)⟩
theorem fin_ok (hp : HeapOk K H F as m) (pc : c0 <+: as.c) (r : RepE K F as v e) {e2 : E} {m2 : Store} (h : fin c0.length m e = some (e2, m2)) :
    ∃ F2 c2, Same F F2 ∧ c0 <+: c2 ∧ HeapOk K H F2 ⟨c2, as.g⟩ m2 ∧ RepE K F2 ⟨c2, as.g⟩ v e2 := by
  have get : ∀ (i : Nat) (a : Addr), i < c0.length → as.c[i]? = some a → c0[i]? = some a := fun i a hi q => by
    obtain ⟨t, et⟩ := pc
    rw [← et, List.getElem?_append_left hi] at q
    exact q
  cases r with
  | d r => cases h; exact ⟨F, c0, Same.refl F, List.prefix_refl _, hp.take pc, .d r⟩
  | @own a c r =>
    simp only [fin] at h
    split at h
    · rename_i hc
      cases h
      exact ⟨F, c0, Same.refl F, List.prefix_refl _, hp.take pc, .own (get c a hc r)⟩
    · rename_i hc
      obtain ⟨d, h1, h2⟩ := Option.map_eq_some_iff.mp h
      cases h2
      have hz : frzE m (.own c) = some (d, m.set c (.frz d)) := by
        show (look m (.own c)).bind _ = _
        rw [h1]; rfl
      obtain ⟨F2, x2, hp2, r2⟩ := frzE_ok hp (.own r) hz
      refine ⟨F2, c0, x2.1, List.prefix_refl _, ?_, .d r2⟩
      have q := hp2.take pc
      rw [List.take_set_of_le (by omega)] at q
      exact q
  | @deal a r ca row c t h1 h2 z h3 =>
    simp only [fin] at h
    split at h
    · rename_i hc
      cases h
      exact ⟨F, c0, Same.refl F, List.prefix_refl _, hp.take pc, .deal h1 h2 z (get c ca hc h3)⟩
    · rename_i hc
      obtain ⟨o, e1, e2⟩ := Option.map_eq_some_iff.mp h
      cases e2
      have ht := hp.take pc
      have hl : c0.length = (m.take c0.length).length := ht.len
      have nin : ca ∉ c0 := fun z => by
        obtain ⟨i, hi, ei⟩ := List.getElem_of_mem z
        have q1 : as.c[i]? = some ca := by
          obtain ⟨t, et⟩ := pc
          rw [← et, List.getElem?_append_left hi, List.getElem?_eq_getElem hi, ei]
        exact hc (by rw [← nd_ix hp.nd q1 h3]; exact hi)
      refine ⟨F, c0 ++ [ca], Same.refl F, pre_snoc _ _, ⟨ht.sub, by show (c0 ++ [ca]).length = _; rw [List.length_append, List.length_append, ← hl]; rfl, ?_, fun a q => ?_, fun i b u q1 q2 => ?_, fun p hq => ?_, ht.pnd⟩, .deal h1 h2 z ?_⟩
      · show (c0 ++ [ca]).Nodup
        rw [List.nodup_append]
        refine ⟨ht.nd, by simp, fun a ha b hb => ?_⟩
        have e : b = ca := by simpa using hb
        rw [e]
        exact fun z => nin (by rw [← z]; exact ha)
      · rcases List.mem_append.mp q with q | q
        · exact ht.there a q
        · have e : a = ca := by simpa using q
          rw [e]
          exact hp.there ca (List.mem_of_getElem? h3)
      · have q1 : (c0 ++ [ca])[i]? = some b := q1
        by_cases hi : i < c0.length
        · rw [List.getElem?_append_left hi] at q1
          rw [List.getElem?_append_left (by omega)] at q2
          exact ht.cell i b u q1 q2
        · rw [List.getElem?_append_right (by omega)] at q1
          rw [List.getElem?_append_right (by omega), ← hl] at q2
          cases k : i - c0.length with
          | zero =>
            rw [k] at q1 q2
            simp at q1 q2
            subst q1 q2
            exact hp.cell c ca o h3 e1
          | succ j => rw [k] at q1; simp at q1
      · obtain ⟨p1, p2, p3⟩ := hp.prot p hq
        refine ⟨p1, p2, fun z => ?_⟩
        rcases List.mem_append.mp z with z | z
        · exact (ht.prot p hq).2.2 z
        · have e : p.1 = ca := by simpa using z
          exact p3 (by rw [e]; exact List.mem_of_getElem? h3)
      · show (c0 ++ [ca])[c0.length]? = some ca
        simp
end

/-! ### defs -/
theorem RepEs.length {K : PySem.W.Frag} {F : Hp} {as : Cs} : ∀ {vs : List V} {es : List E}, RepEs K F as vs es → vs.length = es.length
  | _, _, .nil => rfl
  | _, _, .cons _ b => congrArg (· + 1) (RepEs.length b)
theorem RepEs.get {K : PySem.W.Frag} {F : Hp} {as : Cs} : ∀ {vs : List V} {es : List E} {i : Nat} {e : E}, RepEs K F as vs es → es[i]? = some e → ∃ v, vs[i]? = some v ∧ RepE K F as v e
  | _, _, _, _, .nil, h => by simp at h
  | _, _, 0, _, .cons a _, h => by simp at h; subst h; exact ⟨_, rfl, a⟩
  | _, _, i + 1, _, .cons _ b, h => by
    obtain ⟨v, h1, h2⟩ := RepEs.get (i := i) b (by simpa using h)
    exact ⟨v, by simpa using h1, h2⟩
theorem env_start {K : PySem.W.Frag} {F : Hp} {as : Cs} {vs : List V} {es : List E} {N : List Str} {k : Nat} (r : RepEs K F as vs es) (hN : N.length = es.length + k) : EnvOk K F as (start N vs) (es.map some ++ List.replicate k none) := by
  have hl := r.length
  refine ⟨?_, fun i e h => ?_⟩
  · show (vs.map some ++ List.replicate (N.length - vs.length) none).length = _
    rw [List.length_append, List.length_append, List.length_map, List.length_map, List.length_replicate, List.length_replicate]
    omega
  · by_cases hi : i < es.length
    · rw [List.getElem?_append_left (by rw [List.length_map]; exact hi), List.getElem?_map] at h
      obtain ⟨e', h1, h2⟩ := Option.map_eq_some_iff.mp h
      cases h2
      obtain ⟨v, h3, h4⟩ := r.get h1
      refine ⟨v, ?_, h4⟩
      show (vs.map some ++ List.replicate (N.length - vs.length) none)[i]? = _
      rw [List.getElem?_append_left (by rw [List.length_map]; omega), List.getElem?_map, h3]
      rfl
    · rw [List.getElem?_append_right (by rw [List.length_map]; omega), List.getElem?_replicate] at h
      split at h <;> cases h
section
variable {P : Program} {w : World} {K : PySem.W.Frag} {mg : Str → Option Value} {base : Heap}
theorem fn_ok {x qual : Str} {st : Stmt} {f : Addr} {fd : FuncData} {N ps : List Str} {lev n k : Nat} {body : Sx} (F : Fun K x qual st f fd) (S : FnScope N ps (defScope st)) (hn : ps.length = n) (hN : N.length = n + k)
    (hb : ∀ (cdv : Value) (A : Around) (outer : List PySem.Env) (s : Shared) (H : Hp) (E : XK), Room lev (A.deeper (PyProof.Rows.envOfC qual (defScope st) s.heap.objs.size f cdv)) →
      PSs (cxOf CX0 P w K mg base N qual (defScope st) f cdv A outer s H E).nox (defBody st) (tS K body)) :
    FnOk P w K mg base CX0 (lev + 1) f fd ps (spD K n (fnD n k body)) := by
  refine F.ok S (fun vs H Q E h => by rw [hn]; exact h.1) fun cdv A outer s H vs Q E hr h => ⟨_, hb cdv A outer s H E hr, ?_⟩
  obtain ⟨hl, es, m, F0, as, e, m', r, hp, hf, q⟩ := h
  unfold fnD at hf
  split at hf
  · rename_i hes
    obtain ⟨⟨fl, ρ', m1⟩, h1, hf⟩ := bind2 hf
    refine ⟨_, m, F0, as, fl, ρ', m1, env_start r (by rw [hN, hes]), hp, h1, ?_⟩
    have hml : as.c.length = m.length := hp.len
    cases fl with
    | nx =>
      cases hf
      intro σ' H' F' as' x env' hp'
      have q2 := hp'.take x.2.1
      rw [hml] at q2
      obtain ⟨c', g'⟩ := as'
      have eg : g' = as.g := x.2.2
      subst eg
      exact q .non H' F' as ⟨x.1, List.prefix_refl _, rfl⟩ q2 (.d .non)
    | rt e1 =>
      intro v H' F' as' x r' hp'
      have hf : fin m.length m1 e1 = some (e, m') := hf
      rw [← hml] at hf
      obtain ⟨F2, c2, s2, p2, hp2, r2⟩ := fin_ok hp' x.2.1 r' hf
      exact q v H' F2 ⟨c2, as'.g⟩ ⟨x.1.trans s2, p2, x.2.2⟩ hp2 r2
    | bk => cases hf
    | ct => cases hf
  · cases hf
/-- a def of the module at its name -/
structure Fn (P : Program) (w : World) (K : PySem.W.Frag) (mg : Str → Option Value) (base : Heap) (lev : Nat) (x : Str) (n : Nat) (f : Fx) : Prop where
  ex : ∃ (a : Addr) (fd : FuncData) (ps : List Str), mg x = some (.ref a) ∧ PySem.W.keepIn K (.ref a) = true ∧ Binds K fd ps [] ∧ FnOk P w K mg base CX0 lev a fd ps (spD K n f)
theorem Fn.mono {lev lev' n : Nat} {x : Str} {f : Fx} (h : Fn P w K mg base lev x n f) (l : lev ≤ lev') : Fn P w K mg base lev' x n f := by
  obtain ⟨a, fd, ps, h1, h2, h3, h4⟩ := h.ex
  exact ⟨a, fd, ps, h1, h2, h3, h4.mono l⟩
/-- what the top has of a def -/
structure At (K : PySem.W.Frag) (mg : Str → Option Value) (x : Str) (ps : List Str) (st : Stmt) (a : Addr) (fd : FuncData) : Prop where
  F : Fun K x x st a fd
  g : mg x = some (.ref a)
  b : Binds K fd ps []
theorem fn_at {x : Str} {st : Stmt} {a : Addr} {fd : FuncData} {N ps : List Str} {lev n k : Nat} {body : Sx} (T : At K mg x ps st a fd) (S : FnScope N ps (defScope st)) (hn : ps.length = n) (hN : N.length = n + k)
    (hb : ∀ (cdv : Value) (A : Around) (outer : List PySem.Env) (s : Shared) (H : Hp) (E : XK), Room lev (A.deeper (PyProof.Rows.envOfC x (defScope st) s.heap.objs.size a cdv)) →
      PSs (cxOf CX0 P w K mg base N x (defScope st) a cdv A outer s H E).nox (defBody st) (tS K body)) : Fn P w K mg base (lev + 1) x n (fnD n k body) :=
  ⟨a, fd, ps, T.g, T.F.kp, T.b, fn_ok T.F S hn hN hb⟩
/-- nothing is promised -/
def fNone : Fx := fun _ _ => none
theorem fn_none {x : Str} {st : Stmt} {a : Addr} {fd : FuncData} {ps : List Str} {lev n : Nat} (T : At K mg x ps st a fd) : Fn P w K mg base lev x n fNone :=
  ⟨a, fd, ps, T.g, T.F.kp, T.b, ⟨fun vs H Q E h => by (obtain ⟨_, es, m, F, as, e, m', _, _, h, _⟩ := h; cases h), fun A outer s H args us vs Q E _ _ _ _ h => by (obtain ⟨_, es, m, F, as, e, m', _, _, h, _⟩ := h; cases h)⟩⟩
end
def eCall (f : Fx) (g : Ax) : Ex := fun ρ m => (g ρ m).bind fun p => f p.1 p.2
section
variable {X : Cx} {lev n : Nat} {x : Str} {f : Fx} {g : Ax} {e : Expr} {es : List Expr} {p pos : Pos}
theorem r_call (G : Fn X.prog X.w X.K X.mg X.base lev x n f) (hr : Room lev X.A) (hg : Gl X x) (hn : ∀ ρ m r, g ρ m = some r → r.1.length = n) (ha : PA X (e :: es) (tA X.K g)) (hdb : (x == ("__debug__" : Str)) = false := by decide) (he : starEach (e :: es) X.env = (false, eval e X.env) :: starEach es X.env := by rfl)
    (hpl : (backTo pos (starEach es X.env)).any (·.1) = false := by rfl) : PE X (.Call (.Name x p) (e :: es) [] pos) (tE X.K (eCall f g)) := by
  obtain ⟨a, fd, ps, h1, h2, h3, h4⟩ := G.ex
  refine PE_imp (pe_call h4 hr hg h1 h2 h3 .nil pass0 ha hdb he hpl) fun σ H Q h => ?_
  obtain ⟨ρ, m, F, as, e, m', env, hp, hf, q⟩ := h
  obtain ⟨⟨es1, m1⟩, q1, hf⟩ := bind2 hf
  refine ⟨ρ, m, F, as, es1, m1, env, hp, q1, fun vs H1 F1 as1 x1 hp1 r1 => ?_⟩
  show spD X.K n f (vs ++ []) H1 Q E0
  rw [List.append_nil]
  exact ⟨by rw [r1.length]; exact hn _ _ _ q1, es1, m1, F1, as1, e, m', r1, hp1, hf, fun v H' F' as' x2 hp2 r2 => q v H' F' as' (x1.trans x2) hp2 r2⟩
theorem aNil_len : ∀ ρ m r, aNil ρ m = some r → r.1.length = 0 := fun ρ m r h => by cases h; rfl
theorem aCons_len {n : Nat} {f : Ex} {g : Ax} (h : ∀ ρ m r, g ρ m = some r → r.1.length = n) : ∀ ρ m r, aCons f g ρ m = some r → r.1.length = n + 1 := fun ρ m r q => by
  obtain ⟨p, h1, q⟩ := bind2 q
  obtain ⟨s, h2, q⟩ := bind2 q
  cases q
  exact congrArg (· + 1) (h _ _ _ h2)
end

/-! ### built-ins of one value -/
def D1Ok (K : PySem.W.Frag) (r : List V → Hp → VK → Prop) (op : D → Option D) : Prop := ∀ x H F dx d Q, FSub F H → RepL K H F x dx → op dx = some d →
  (∀ v H' F', Grow H F H' F' → Rep K F' v d → Q v H') → r [x] H Q
def eUn (op : D → Option D) (f : Ex) : Ex := fun ρ m => (f ρ m).bind fun p => (look p.2 p.1).bind fun d => (op d).bind fun r => some (.d r, p.2)
def eBi (op : D → D → Option D) (f g : Ex) : Ex := eBin (g2 op) f g
section
variable {X : Cx} {x : Str} {id T : String} {r : List V → Hp → VK → Prop} {op : D → Option D} {op2 : D → D → Option D} {e e2 : Expr} {f f2 : Ex} {p pos : Pos}
theorem un_read {K : PySem.W.Frag} (hd : D1Ok K r op) : ∀ σ H Q, tE K (eUn op f) σ H Q → tCB r (tCons (tE K f) tNil) σ H Q := by
  intro σ H Q h
  obtain ⟨ρ, m, F, as, e, m', env, hp, hf, q⟩ := h
  obtain ⟨⟨e1, m1⟩, h1, hf⟩ := bind2 hf
  obtain ⟨d, h2, hf⟩ := bind2 hf
  obtain ⟨d', h3, hf⟩ := bind2 hf
  cases hf
  refine estep env hp h1 fun v H1 F1 as1 x1 hp1 env1 r1 => ?_
  exact hd v H1 F1 d d' Q hp1.sub (look_rep hp1 r1 h2) h3 fun w H' F' g rw' => q w H' F' as1 (x1.trans (hp1.ext g)) (hp1.grow g) (.d rw')
theorem r_b1 (hc : CallR X (.builtin id) r) (hd : D1Ok X.K r op) (hg : Gl X x) (hm : X.mg x = none) (hv : bootBuiltins x = some (.builtin id)) (he : PE X e (tE X.K f)) (hn : x ≠ "__name__" := by decide) (hdb : (x == ("__debug__" : Str)) = false := by decide)
    (hs : starEach [e] X.env = (false, eval e X.env) :: starEach [] X.env := by rfl) (hpl : (backTo pos (starEach [] X.env)).any (·.1) = false := by rfl) : PE X (.Call (.Name x p) [e] [] pos) (tE X.K (eUn op f)) :=
  PE_imp (pe_callB hc hg hm hv (pa_cons he pa_nil hs) hn hdb hs hpl) (un_read hd)
theorem r_t1 (hc : CallR X (.type T) r) (hd : D1Ok X.K r op) (hg : Gl X x) (hm : X.mg x = none) (hv : bootBuiltins x = some (.type T)) (he : PE X e (tE X.K f)) (hn : x ≠ "__name__" := by decide) (hdb : (x == ("__debug__" : Str)) = false := by decide)
    (hs : starEach [e] X.env = (false, eval e X.env) :: starEach [] X.env := by rfl) (hpl : (backTo pos (starEach [] X.env)).any (·.1) = false := by rfl) : PE X (.Call (.Name x p) [e] [] pos) (tE X.K (eUn op f)) :=
  PE_imp (pe_callTy hc hg hm hv (pa_cons he pa_nil hs) hn hdb hs hpl) (un_read hd)
theorem bi_read {K : PySem.W.Frag} (hd : D2Ok K (fun x y => r [x, y]) op2) : ∀ σ H Q, tE K (eBi op2 f f2) σ H Q → tCB r (tCons (tE K f) (tCons (tE K f2) tNil)) σ H Q := by
  intro σ H Q h
  obtain ⟨ρ, m, F, as, e, m', env, hp, hf, q⟩ := h
  obtain ⟨⟨e1, m1⟩, h1, hf⟩ := bind2 hf
  obtain ⟨⟨e2, m2⟩, h2, hf⟩ := bind2 hf
  refine estep env hp h1 fun v H1 F1 as1 x1 hp1 env1 r1 => estep env1 hp1 h2 fun w H2 F2 as2 x2 hp2 env2 r2 => ?_
  exact hd.r2 v w H2 F2 as2 m2 e1 e2 e m' Q hp2 (r1.ext x2) r2 hf fun v H' F' as' x3 hp3 r3 => q v H' F' as' (x1.trans (x2.trans x3)) hp3 r3
theorem r_b2 (hc : CallR X (.builtin id) r) (hd : D2Ok X.K (fun x y => r [x, y]) op2) (hg : Gl X x) (hm : X.mg x = none) (hv : bootBuiltins x = some (.builtin id)) (he : PE X e (tE X.K f)) (he2 : PE X e2 (tE X.K f2)) (hn : x ≠ "__name__" := by decide) (hdb : (x == ("__debug__" : Str)) = false := by decide)
    (hs : starEach [e, e2] X.env = (false, eval e X.env) :: starEach [e2] X.env := by rfl) (hs2 : starEach [e2] X.env = (false, eval e2 X.env) :: starEach [] X.env := by rfl) (hpl : (backTo pos (starEach [e2] X.env)).any (·.1) = false := by rfl) : PE X (.Call (.Name x p) [e, e2] [] pos) (tE X.K (eBi op2 f f2)) :=
  PE_imp (pe_callB hc hg hm hv (pa_cons he (pa_cons he2 pa_nil hs2) hs) hn hdb hs hpl) (bi_read hd)
/-- -n -/
def opNeg : D → Option D
  | .int i => some (.int (-i))
  | _ => none
theorem r_neg {a : Expr} {fa : Ex} (ha : PE X a (tE X.K fa)) : PE X (.UnaryOp .USub a pos) (tE X.K (eUn opNeg fa)) := PE_imp (pe_un un_neg ha) fun σ H Q h => by
  obtain ⟨ρ, m, F, as, e, m', env, hp, hf, q⟩ := h
  obtain ⟨⟨e1, m1⟩, h1, hf⟩ := bind2 hf
  obtain ⟨d, h2, hf⟩ := bind2 hf
  obtain ⟨d', h3, hf⟩ := bind2 hf
  cases hf
  refine estep env hp h1 fun v H1 F1 as1 x1 hp1 env1 r1 => ?_
  unfold opNeg at h3
  split at h3
  · cases h3
    exact ⟨_, (look_rep hp1 r1 h2).int, q _ H1 F1 as1 x1 hp1 (.d .int)⟩
  · cases h3
end
/-! #### len -/
def opLen : D → Option D
  | .lst xs => some (.int xs.length)
  | .tup xs => some (.int xs.length)
  | .scr xs => some (.int xs.length)
  | .dic xs => some (.int xs.length)
  | .str x => if x.length ≤ big then some (.int x.length) else none
  | _ => none
theorem KReps.length {K : PySem.W.Frag} {F : Hp} : ∀ {vs : List (Key × V)} {ds : List (Key × D)}, KReps K F vs ds → vs.length = ds.length
  | _, _, .nil => rfl
  | _, _, .cons _ b => congrArg (· + 1) (KReps.length b)
section
variable {X : Cx}
theorem call_lenR : CallR X (.builtin "len") (fun xs H Q => ∃ a kvs, xs = [V.ref a] ∧ Rd H a (.dK kvs) ∧ Q (.int kvs.length) H) := by
  intro pins s σ H xs us Q I r h
  obtain ⟨a, kvs, rfl, ha, q⟩ := h
  obtain ⟨u, rfl, ru⟩ := vals1 r
  cases ru
  exact d_len I ha fun t s' I' => ⟨.int kvs.length, H, I', ⟨t, rfl⟩, q⟩
def rLenA (K : PySem.W.Frag) : List V → Hp → VK → Prop := fun xs H Q => (∃ p ys, xs = [.ref p] ∧ (SqL K H p ys ∨ SqT K H p ys) ∧ Q (.int ys.length) H) ∨ (∃ z : Str, xs = [.str z] ∧ z.length ≤ sizeLine ∧ Q (.int z.length) H) ∨ ∃ a kvs, xs = [V.ref a] ∧ Rd H a (.dK kvs) ∧ Q (.int kvs.length) H
theorem call_lenA : CallR X (.builtin "len") (rLenA X.K) := call_len_seq.or (call_len_str.or call_lenR)
end
theorem d_len1 {K : PySem.W.Frag} : D1Ok K (rLenA K) opLen := by
  intro x H F dx d Q s rx hd q
  unfold opLen at hd
  split at hd
  · cases hd
    obtain ⟨a, vs, rfl, h1, z1, r1⟩ := rx.list s
    exact .inl ⟨a, vs, rfl, .inl (.of h1), by rw [r1.length]; exact q _ H F (.refl s) .int⟩
  · cases hd
    obtain ⟨a, vs, rfl, f1, h1, z1, r1⟩ := rx.tup s
    exact .inl ⟨a, vs, rfl, .inr (.of h1), by rw [r1.length]; exact q _ H F (.refl s) .int⟩
  · cases hd
    obtain ⟨a, rfl, h1⟩ := rx.scr s
    exact .inl ⟨a, _, rfl, .inl h1, by rw [List.length_map]; exact q _ H F (.refl s) .int⟩
  · cases hd
    obtain ⟨a, vs, rfl, h1, r1⟩ := rx.dict s
    exact .inr (.inr ⟨a, vs, rfl, h1, by rw [r1.length]; exact q _ H F (.refl s) .int⟩)
  · split at hd
    · rename_i z
      cases hd
      exact .inr (.inl ⟨_, by rw [rx.str], big_le z, q _ H F (.refl s) .int⟩)
    · cases hd
  · cases hd
/-! #### ints in a list -/
def intsOf : List D → Option (List Int)
  | [] => some []
  | .int i :: r => (intsOf r).map (i :: ·)
  | _ => none
theorem intsOf_eq : ∀ {ds : List D} {ns : List Int}, intsOf ds = some ns → ds = ns.map .int
  | [], _, h => by cases h; rfl
  | d :: r, ns, h => by
    cases d with
    | int i =>
      obtain ⟨ms, h1, rfl⟩ := Option.map_eq_some_iff.mp h
      rw [intsOf_eq h1]
      rfl
    | _ => cases h
theorem intsOf_map : ∀ ns : List Int, intsOf (ns.map .int) = some ns
  | [] => rfl
  | n :: ns => by
    show (intsOf (ns.map .int)).map (n :: ·) = _
    rw [intsOf_map ns]; rfl
def maxI : List Int → Option Int
  | [] => none
  | x :: xs => some (xs.foldl (fun a b => if a < b then b else a) x)
def minI : List Int → Option Int
  | [] => none
  | x :: xs => some (xs.foldl (fun a b => if b < a then b else a) x)
theorem foldmax : ∀ (xs : List Int) (x : Int), (xs.foldl (fun a b => if a < b then b else a) x = x ∨ xs.foldl (fun a b => if a < b then b else a) x ∈ xs) ∧ x ≤ xs.foldl (fun a b => if a < b then b else a) x ∧ ∀ y ∈ xs, y ≤ xs.foldl (fun a b => if a < b then b else a) x
  | [], x => ⟨.inl rfl, Int.le_refl _, fun y h => nomatch h⟩
  | b :: xs, x => by
    obtain ⟨h1, h2, h3⟩ := foldmax xs (if x < b then b else x)
    rw [List.foldl_cons]
    refine ⟨?_, ?_, fun y hy => ?_⟩
    · rcases h1 with h1 | h1
      · rw [h1]
        by_cases e : x < b
        · rw [if_pos e]; exact .inr List.mem_cons_self
        · rw [if_neg e]; exact .inl rfl
      · exact .inr (List.mem_cons_of_mem _ h1)
    · refine Int.le_trans ?_ h2
      split <;> omega
    · rcases List.mem_cons.mp hy with rfl | hy
      · refine Int.le_trans ?_ h2
        split <;> omega
      · exact h3 y hy
theorem foldmin : ∀ (xs : List Int) (x : Int), (xs.foldl (fun a b => if b < a then b else a) x = x ∨ xs.foldl (fun a b => if b < a then b else a) x ∈ xs) ∧ xs.foldl (fun a b => if b < a then b else a) x ≤ x ∧ ∀ y ∈ xs, xs.foldl (fun a b => if b < a then b else a) x ≤ y
  | [], x => ⟨.inl rfl, Int.le_refl _, fun y h => nomatch h⟩
  | b :: xs, x => by
    obtain ⟨h1, h2, h3⟩ := foldmin xs (if b < x then b else x)
    rw [List.foldl_cons]
    refine ⟨?_, ?_, fun y hy => ?_⟩
    · rcases h1 with h1 | h1
      · rw [h1]
        by_cases e : b < x
        · rw [if_pos e]; exact .inr List.mem_cons_self
        · rw [if_neg e]; exact .inl rfl
      · exact .inr (List.mem_cons_of_mem _ h1)
    · refine Int.le_trans h2 ?_
      split <;> omega
    · rcases List.mem_cons.mp hy with rfl | hy
      · refine Int.le_trans h2 ?_
        split <;> omega
      · exact h3 y hy
theorem maxI_spec {ns : List Int} {m : Int} (h : maxI ns = some m) : m ∈ ns ∧ ∀ y ∈ ns, y ≤ m := by
  cases ns with
  | nil => cases h
  | cons x xs =>
    cases h
    obtain ⟨h1, h2, h3⟩ := foldmax xs x
    refine ⟨?_, fun y hy => ?_⟩
    · rcases h1 with h1 | h1
      · rw [h1]; exact List.mem_cons_self
      · exact List.mem_cons_of_mem _ h1
    · rcases List.mem_cons.mp hy with rfl | hy
      · exact h2
      · exact h3 y hy
theorem minI_spec {ns : List Int} {m : Int} (h : minI ns = some m) : m ∈ ns ∧ ∀ y ∈ ns, m ≤ y := by
  cases ns with
  | nil => cases h
  | cons x xs =>
    cases h
    obtain ⟨h1, h2, h3⟩ := foldmin xs x
    refine ⟨?_, fun y hy => ?_⟩
    · rcases h1 with h1 | h1
      · rw [h1]; exact List.mem_cons_self
      · exact List.mem_cons_of_mem _ h1
    · rcases List.mem_cons.mp hy with rfl | hy
      · exact h2
      · exact h3 y hy
def opMax : D → Option D
  | .lst xs => (intsOf xs).bind fun ns => (maxI ns).map .int
  | _ => none
def opMin : D → Option D
  | .lst xs => (intsOf xs).bind fun ns => (minI ns).map .int
  | _ => none
def opSum : D → Option D
  | .lst xs => (intsOf xs).map fun ns => .int ns.sum
  | .tup xs => (intsOf xs).map fun ns => .int ns.sum
  | _ => none
section
variable {K : PySem.W.Frag}
theorem list_ints {H F : Hp} {x : V} {xs : List D} {ns : List Int} (s : FSub F H) (rx : RepL K H F x (.lst xs)) (h : intsOf xs = some ns) : ∃ a, x = .ref a ∧ SqL K H a (ns.map V.int) := by
  obtain ⟨a, vs, rfl, h1, z1, r1⟩ := rx.list s
  rw [intsOf_eq h] at r1
  rw [r1.ints] at h1
  exact ⟨a, rfl, .of h1⟩
theorem d_max1 : D1Ok K (rMax K) opMax := by
  intro x H F dx d Q s rx hd q
  unfold opMax at hd
  split at hd
  · obtain ⟨ns, h1, hd⟩ := bind2 hd
    obtain ⟨m, h2, rfl⟩ := Option.map_eq_some_iff.mp hd
    obtain ⟨a, rfl, hq⟩ := list_ints s rx h1
    obtain ⟨h3, h4⟩ := maxI_spec h2
    refine ⟨a, ns, rfl, hq, List.length_pos_of_mem h3, fun m' h5 h6 => ?_⟩
    have e : m' = m := Int.le_antisymm (h4 _ h5) (h6 _ h3)
    subst e
    exact q _ H F (.refl s) .int
  · cases hd
theorem d_min1 : D1Ok K (rMin K) opMin := by
  intro x H F dx d Q s rx hd q
  unfold opMin at hd
  split at hd
  · obtain ⟨ns, h1, hd⟩ := bind2 hd
    obtain ⟨m, h2, rfl⟩ := Option.map_eq_some_iff.mp hd
    obtain ⟨a, rfl, hq⟩ := list_ints s rx h1
    obtain ⟨h3, h4⟩ := minI_spec h2
    refine ⟨a, ns, rfl, hq, List.length_pos_of_mem h3, fun m' h5 h6 => ?_⟩
    have e : m' = m := Int.le_antisymm (h6 _ h3) (h4 _ h5)
    subst e
    exact q _ H F (.refl s) .int
  · cases hd
theorem tup_ints {H F : Hp} {x : V} {xs : List D} {ns : List Int} (s : FSub F H) (rx : RepL K H F x (.tup xs)) (h : intsOf xs = some ns) : ∃ a, x = .ref a ∧ SqT K H a (ns.map V.int) := by
  obtain ⟨a, vs, rfl, f1, h1, z1, r1⟩ := rx.tup s
  rw [intsOf_eq h] at r1
  rw [r1.ints] at h1
  exact ⟨a, rfl, .of h1⟩
/-- sum of a list or of a tuple -/
def rSumB (K : PySem.W.Frag) : List V → Hp → VK → Prop := fun vs H Q => rSum K vs H Q ∨ ∃ (a : Addr) (ns : List Int), vs = [V.ref a] ∧ SqT K H a (ns.map V.int) ∧ Q (.int ns.sum) H
theorem cr_sumB {X : Cx} (hc : X.calm = true) : CallR X (.builtin "sum") (rSumB X.K) := by
  intro pins s σ H vs us Q I r h
  rcases h with h | ⟨a, ns, rfl, hs, q⟩
  · exact cr_sum hc pins s σ H vs us Q I r h
  · obtain ⟨its, rv, ht, _⟩ := I.tuple hs
    rw [Vals.ref1 r]
    have hi := rv.ints
    obtain ⟨xs, e⟩ := hi.allInts.items
    have hn : PySem.numsOf (PySem.intItems xs).toList = ns := by rw [← e]; exact hi.numsOf
    rw [PySem.nums_intItems] at hn
    rw [e] at ht
    refine PySem.W.ktm_sumG (I.ok.hd hc) ht fun h' tk t' hk => ?_
    rw [PySem.preSum_eq, List.take_of_length_le (by simp), hn]
    exact ⟨.int _, H, I.kept hk, ⟨_, rfl⟩, q⟩
theorem d_sum1 : D1Ok K (rSumB K) opSum := by
  intro x H F dx d Q s rx hd q
  unfold opSum at hd
  split at hd
  · obtain ⟨ns, h1, rfl⟩ := Option.map_eq_some_iff.mp hd
    obtain ⟨a, rfl, hq⟩ := list_ints s rx h1
    exact .inl ⟨a, ns, rfl, hq, q _ H F (.refl s) .int⟩
  · obtain ⟨ns, h1, rfl⟩ := Option.map_eq_some_iff.mp hd
    obtain ⟨a, rfl, hq⟩ := tup_ints s rx h1
    exact .inr ⟨a, ns, rfl, hq, q _ H F (.refl s) .int⟩
  · cases hd
def opAbs : D → Option D
  | .int i => some (.int (if i < 0 then -i else i))
  | _ => none
theorem d_abs1 : D1Ok K (fun xs H Q => ∃ i, xs = [.int i] ∧ Q (.int (if i < 0 then -i else i)) H) opAbs := by
  intro x H F dx d Q s rx hd q
  unfold opAbs at hd
  split at hd
  · cases hd
    exact ⟨_, by rw [rx.int], q _ H F (.refl s) .int⟩
  · cases hd
def opInt : D → Option D
  | .int i => some (.int i)
  | _ => none
theorem d_int1 : D1Ok K (fun xs H Q => (∃ i, xs = [.int i] ∧ Q (.int i) H) ∨ ∃ k, xs = [.bl k] ∧ Q (.int (if k then 1 else 0)) H) opInt := by
  intro x H F dx d Q s rx hd q
  unfold opInt at hd
  split at hd
  · cases hd
    exact .inl ⟨_, by rw [rx.int], q _ H F (.refl s) .int⟩
  · cases hd
abbrev opMax2 := opI fun i j => some (.int (if j > i then j else i))
abbrev opMin2 := opI fun i j => some (.int (if j < i then j else i))
theorem d_max2 : D2Ok K (fun x y H Q => ∃ i j, [x, y] = [V.int i, V.int j] ∧ Q (.int (if j > i then j else i)) H) opMax2 := by
  intro x y H F dx dy d Q s rx ry hd q
  unfold opMax2 opI at hd
  split at hd
  · cases hd
    exact ⟨_, _, by rw [rx.int, ry.int], q _ H F (.refl s) .int⟩
  · cases hd
theorem d_min2 : D2Ok K (fun x y H Q => ∃ i j, [x, y] = [V.int i, V.int j] ∧ Q (.int (if j < i then j else i)) H) opMin2 := by
  intro x y H F dx dy d Q s rx ry hd q
  unfold opMin2 opI at hd
  split at hd
  · cases hd
    exact ⟨_, _, by rw [rx.int, ry.int], q _ H F (.refl s) .int⟩
  · cases hd
/-! #### tuple(x), list(x) -/
def opTuple : D → Option D
  | .lst xs => some (.tup xs)
  | .tup xs => some (.tup xs)
  | _ => none
def opList : D → Option D
  | .lst xs => some (.lst xs)
  | .tup xs => some (.lst xs)
  | _ => none
theorem d_tuple1 : D1Ok K (fun xs H Q => ∃ p ys, xs = [.ref p] ∧ ((SqL K H p ys ∧ ∀ l, H l = none → Q (.ref l) (upd H l (.tup ys))) ∨ (SqT K H p ys ∧ Q (.ref p) H))) opTuple := by
  intro x H F dx d Q s rx hd q
  unfold opTuple at hd
  split at hd
  · cases hd
    obtain ⟨a, vs, rfl, h1, z1, r1⟩ := rx.list s
    refine ⟨a, vs, rfl, .inl ⟨.of h1, fun l hl => ?_⟩⟩
    have g := Grow.laid (o := .tup vs) s hl
    exact q _ _ _ g (.tup upd_same z1 (r1.mono (g.same s)))
  · cases hd
    obtain ⟨a, vs, rfl, f1, h1, z1, r1⟩ := rx.tup s
    exact ⟨a, vs, rfl, .inr ⟨.of h1, q _ H F (.refl s) (.tup f1 z1 r1)⟩⟩
  · cases hd
def rListOf (K : PySem.W.Frag) : List V → Hp → VK → Prop := fun xs H Q => ∃ p ys, xs = [.ref p] ∧ (SqL K H p ys ∨ SqT K H p ys) ∧ ∀ l, H l = none → Q (.ref l) (upd H l (.lst ys))
theorem d_list1 : D1Ok K (rListOf K) opList := by
  intro x H F dx d Q s rx hd q
  unfold opList at hd
  split at hd
  · cases hd
    obtain ⟨a, vs, rfl, h1, z1, r1⟩ := rx.list s
    refine ⟨a, vs, rfl, .inl (.of h1), fun l hl => ?_⟩
    have g := Grow.laid (o := .lst vs) s hl
    exact q _ _ _ g (.lst upd_same z1 (r1.mono (g.same s)))
  · cases hd
    obtain ⟨a, vs, rfl, f1, h1, z1, r1⟩ := rx.tup s
    refine ⟨a, vs, rfl, .inr (.of h1), fun l hl => ?_⟩
    have g := Grow.laid (o := .lst vs) s hl
    exact q _ _ _ g (.lst upd_same z1 (r1.mono (g.same s)))
  · cases hd
end
/-- list(x) that is written later -/
def eListO (f : Ex) : Ex := fun ρ m => (f ρ m).bind fun p => (look p.2 p.1).bind fun d => (itemsOf d).bind fun xs => if xs.length ≤ big then some (.own p.2.length, p.2 ++ [.lst xs]) else none
section
variable {X : Cx} {x : Str} {e : Expr} {f : Ex} {p pos : Pos}
theorem r_listO (hg : Gl X x) (hm : X.mg x = none) (hv : bootBuiltins x = some (.type "list")) (he : PE X e (tE X.K f)) (hn : x ≠ "__name__" := by decide) (hdb : (x == ("__debug__" : Str)) = false := by decide)
    (hs : starEach [e] X.env = (false, eval e X.env) :: starEach [] X.env := by rfl) (hpl : (backTo pos (starEach [] X.env)).any (·.1) = false := by rfl) : PE X (.Call (.Name x p) [e] [] pos) (tE X.K (eListO f)) :=
  PE_imp (pe_callTy call_list_of hg hm hv (pa_cons he pa_nil hs) hn hdb hs hpl) fun σ H Q h => by
    obtain ⟨ρ, m, F, as, e, m', env, hp, hf, q⟩ := h
    obtain ⟨⟨e1, m1⟩, h1, hf⟩ := bind2 hf
    obtain ⟨d, h2, hf⟩ := bind2 hf
    obtain ⟨xs, h3, hf⟩ := bind2 hf
    split at hf
    · rename_i z
      cases hf
      refine estep env hp h1 fun v H1 F1 as1 x1 hp1 env1 r1 => ?_
      have rl := look_rep hp1 r1 h2
      have fin2 : ∀ a vs, v = .ref a → (SqL X.K H1 a vs ∨ SqT X.K H1 a vs) → Reps X.K F1 vs xs → (∃ p ys, [v] = [V.ref p] ∧ (SqL X.K H1 p ys ∨ SqT X.K H1 p ys) ∧ ∀ l, H1 l = none → Q (.ref l) (upd H1 l (.lst ys))) := fun a vs ev hq rr => by
        subst ev
        refine ⟨a, vs, rfl, hq, fun l hl => q _ _ F1 ⟨as1.c ++ [l], as1.g⟩ (x1.trans ⟨Same.refl _, pre_snoc _ _, rfl⟩) (hp1.cellNew hl ⟨hp1.sub.free hl, big_le z, vs, upd_same, rr⟩) (.own ?_)⟩
        rw [← hp1.len]
        simp
      cases d with
      | lst ys =>
        cases h3
        obtain ⟨a, vs, ev, g1, z1, rr⟩ := rl.list hp1.sub
        exact fin2 a vs ev (.inl (.of g1)) rr
      | tup ys =>
        cases h3
        obtain ⟨a, vs, ev, f1, g1, z1, rr⟩ := rl.tup hp1.sub
        exact fin2 a vs ev (.inr (.of g1)) rr
      | _ => cases h3
    · cases hf
end
end PL
/-! PL6: chains, isinstance, in, ==, slices, the methods of lists. -/
namespace PL
open PySem PySem.Spec L2
set_option autoImplicit false

/-! ### a op b op' c -/
def eChain (g g' : G2) (fa fb fc : Ex) : Ex := fun ρ m => (fa ρ m).bind fun p => (fb ρ p.2).bind fun q => (g p.1 q.1 q.2).bind fun r => match r.1 with
  | .d (.bl k) => if k = true then (fc ρ r.2).bind fun s => g' q.1 s.1 s.2 else some (.d (.bl false), r.2)
  | _ => none
section
variable {X : Cx} {pos : Pos} {a b c : Expr} {fa fb fc : Ex} {r r' : R2} {g g' : G2}
theorem chain_read (hg : R2Ok X.K r g) (hg' : R2Ok X.K r' g') : ∀ σ H Q, tE X.K (eChain g g' fa fb fc) σ H Q → tChain r r' (tE X.K fa) (tE X.K fb) (tE X.K fc) σ H Q := by
  intro σ H Q h
  obtain ⟨ρ, m, F, as, e, m', env, hp, hf, q⟩ := h
  obtain ⟨⟨ex, m1⟩, h1, hf⟩ := bind2 hf
  obtain ⟨⟨ey, m2⟩, h2, hf⟩ := bind2 hf
  obtain ⟨⟨er, m3⟩, h3, hf⟩ := bind2 hf
  refine estep env hp h1 fun v1 H1 F1 as1 x1 hp1 env1 r1 => estep env1 hp1 h2 fun v2 H2 F2 as2 x2 hp2 env2 r2 => ?_
  refine hg v1 v2 H2 F2 as2 m2 ex ey er m3 _ hp2 (r1.ext x2) r2 h3 fun v3 H3 F3 as3 x3 hp3 r3 => ?_
  have env3 := env2.ext x3
  have x123 := x1.trans (x2.trans x3)
  cases er with
  | d d =>
    cases d with
    | bl k =>
      refine ⟨k, RepE_bl r3, ?_⟩
      cases k with
      | true =>
        obtain ⟨⟨ez, m4⟩, h4, hf⟩ := bind2 hf
        refine estep env3 hp3 h4 fun v4 H4 F4 as4 x4 hp4 env4 r4 => ?_
        exact hg' v2 v4 H4 F4 as4 m4 ey ez e m' Q hp4 (r2.ext (x3.trans x4)) r4 hf fun v H' F' as' x5 hp5 r5 => q v H' F' as' (x123.trans (x4.trans x5)) hp5 r5
      | false => cases hf; exact q _ H3 F3 as3 x123 hp3 (.d .bl)
    | _ => cases hf
  | _ => cases hf
theorem r_chain {op op' : CmpOp} (ho : OpR X (compareOp op) r) (hg : R2Ok X.K r g) (ho' : OpR X (compareOp op') r') (hg' : R2Ok X.K r' g') (ha : PE X a (tE X.K fa)) (hb : PE X b (tE X.K fb)) (hc : PE X c (tE X.K fc))
    (hm : lastMarks [op, op'] [b, c] = false := by with_unfolding_all rfl) : PE X (.Compare a [op, op'] [b, c] pos) (tE X.K (eChain g g' fa fb fc)) := PE_imp (pe_chain ho ho' ha hb hc hm) (chain_read hg hg')
theorem r_chainT {op op' : CmpOp} (ho : OpR X (compareOp op) r) (hg : R2Ok X.K r g) (ho' : OpR X (compareOp op') r') (hg' : R2Ok X.K r' g') (ha : PE X a (tE X.K fa)) (hb : PE X b (tE X.K fb)) (hc : PE X c (tE X.K fc))
    (hm : lastMarks [op, op'] [b, c] = false := by with_unfolding_all rfl) : PT X (.Compare a [op, op'] [b, c] pos) (tT X.K (tOf (eChain g g' fa fb fc))) := PT_imp (pt_chain ho ho' ha hb hc hm) (test_read (chain_read hg hg'))
end

/-! ### isinstance -/
def kindD : D → Option String
  | .non => some "NoneType"
  | .bl _ => some "bool"
  | .int _ => some "int"
  | .str _ => some "str"
  | .tup _ => some "tuple"
  | .lst _ => some "list"
  | _ => none
def isKind (T k : String) : Bool := k == T || (k == "bool" && T == "int")
def eIsi (T : String) (f : Ex) : Ex := fun ρ m => (f ρ m).bind fun p => (look p.2 p.1).bind fun d => (kindD d).bind fun k => some (.d (.bl (isKind T k)), p.2)
/-- the built-in classes of which the text asks -/
abbrev askable : List String := ["tuple", "list", "bool", "int", "str"]
theorem kit_isKind {K : PySem.W.Frag} {T k : String} (hT : T ∈ askable) (d : D) (hk : kindD d = some k) : PySem.W.kitOne K (.type k) (.type T) = some (isKind T k) := by
  have hk2 : k ∈ ["NoneType", "bool", "int", "str", "tuple", "list"] := by
    cases d <;> first | (cases hk; decide) | cases hk
  simp only [askable, List.mem_cons, List.not_mem_nil, or_false] at hT hk2
  rcases hT with rfl | rfl | rfl | rfl | rfl <;> rcases hk2 with rfl | rfl | rfl | rfl | rfl | rfl <;> exact kit_ty (by decide +kernel)
theorem tyx_of {K : PySem.W.Frag} {H F : Hp} {v : V} {d : D} {k : String} (s : FSub F H) (r : RepL K H F v d) (hk : kindD d = some k) : TyX K H v (.type k) := by
  cases d with
  | non => cases hk; rw [r.non]; exact .base .non
  | bl b => cases hk; rw [r.bl]; exact .base (.bl b)
  | int i => cases hk; rw [r.int]; exact .base (.int i)
  | str x => cases hk; rw [r.str]; exact .base (.str x)
  | tup ds => cases hk; obtain ⟨a, vs, rfl, _, h, _⟩ := r.tup s; exact .base (.tup h)
  | lst ds => cases hk; obtain ⟨a, vs, rfl, h, _⟩ := r.list s; exact .base (.lst h)
  | _ => cases hk
section
variable {X : Cx} {x y : Str} {T : String} {e : Expr} {f : Ex} {p p2 pos : Pos}
theorem r_isi (hT : T ∈ askable) (hg : Gl X x) (hm : X.mg x = none) (hv : bootBuiltins x = some (.builtin "isinstance")) (hgT : Gl X y) (hmT : X.mg y = none) (hvT : bootBuiltins y = some (.type T)) (he : PE X e (tE X.K f))
    (hn : x ≠ "__name__" := by decide) (hdb : (x == ("__debug__" : Str)) = false := by decide) (hnT : y ≠ "__name__" := by decide) (hdbT : (y == ("__debug__" : Str)) = false := by decide)
    (hs : starEach [e, .Name y p2] X.env = (false, eval e X.env) :: starEach [.Name y p2] X.env := by rfl) (hs2 : starEach [.Name y p2] X.env = (false, eval (.Name y p2) X.env) :: starEach [] X.env := by rfl) (hpl : (backTo pos (starEach [.Name y p2] X.env)).any (·.1) = false := by rfl) :
    PE X (.Call (.Name x p) [e, .Name y p2] [] pos) (tE X.K (eIsi T f)) :=
  PE_imp (pe_callB call_isi hg hm hv (pa_cons he (pa_cons (pe_bltn (v := .ty T) hgT hmT hvT rfl hnT hdbT) pa_nil hs2) hs) hn hdb hs hpl) fun σ H Q h => by
    obtain ⟨ρ, m, F, as, e, m', env, hp, hf, q⟩ := h
    obtain ⟨⟨e1, m1⟩, h1, hf⟩ := bind2 hf
    obtain ⟨d, h2, hf⟩ := bind2 hf
    obtain ⟨k, h3, hf⟩ := bind2 hf
    cases hf
    refine estep env hp h1 fun v H1 F1 as1 x1 hp1 env1 r1 => ?_
    exact ⟨v, .ty T, _, _, _, rfl, .ty T, tyx_of hp1.sub (look_rep hp1 r1 h2) h3, kit_isKind hT d h3, q _ H1 F1 as1 x1 hp1 (.d .bl)⟩
end

/-! ### data as the library reads it -/
mutual
def py : D → Option PyData
  | .non => some .none
  | .int i => some (.int i)
  | .str x => if PyData.strOk x = true then some (.str x) else none
  | .tup xs => (pys xs).map .tuple
  | .lst xs => (pys xs).map .list
  | _ => none
def pys : List D → Option (List PyData)
  | [] => some []
  | x :: xs => (py x).bind fun p => (pys xs).map (p :: ·)
end
mutual
theorem py_inj : ∀ (x y : D) (p q : PyData), py x = some p → py y = some q → (PyData.eqv p q = true ↔ x = y)
  | .non, y, p, q, h1, h2 => by
    simp only [py] at h1; cases h1
    cases y <;> simp only [py] at h2 <;> first | (cases h2; simp [PyData.eqv]; done) | cases h2 | (obtain ⟨ps, _, rfl⟩ := Option.map_eq_some_iff.mp h2; simp [PyData.eqv]; done) | (split at h2; (cases h2; simp [PyData.eqv]); cases h2)
  | .int i, y, p, q, h1, h2 => by
    simp only [py] at h1; cases h1
    cases y <;> simp only [py] at h2 <;> first | (cases h2; simp [PyData.eqv]; done) | cases h2 | (obtain ⟨ps, _, rfl⟩ := Option.map_eq_some_iff.mp h2; simp [PyData.eqv]; done) | (split at h2; (cases h2; simp [PyData.eqv]); cases h2)
  | .str i, y, p, q, h1, h2 => by
    simp only [py] at h1
    split at h1
    · cases h1
      cases y <;> simp only [py] at h2 <;> first | (cases h2; simp [PyData.eqv]; done) | cases h2 | (obtain ⟨ps, _, rfl⟩ := Option.map_eq_some_iff.mp h2; simp [PyData.eqv]; done) | (split at h2; (cases h2; simp [PyData.eqv]); cases h2)
    · cases h1
  | .tup xs, y, p, q, h1, h2 => by
    simp only [py] at h1
    obtain ⟨ps, e1, rfl⟩ := Option.map_eq_some_iff.mp h1
    cases y with
    | tup ys =>
      simp only [py] at h2
      obtain ⟨qs, e2, rfl⟩ := Option.map_eq_some_iff.mp h2
      have ih := pys_inj xs ys ps qs e1 e2
      simp only [PyData.eqv, D.tup.injEq]
      exact ih
    | non => simp only [py] at h2; cases h2; simp [PyData.eqv]
    | int _ => simp only [py] at h2; cases h2; simp [PyData.eqv]
    | str _ => simp only [py] at h2; split at h2; (cases h2; simp [PyData.eqv]); cases h2
    | lst _ => simp only [py] at h2; obtain ⟨qs, e2, rfl⟩ := Option.map_eq_some_iff.mp h2; simp [PyData.eqv]
    | bl _ => simp only [py] at h2; cases h2
    | dic _ => simp only [py] at h2; cases h2
    | dicT _ => simp only [py] at h2; cases h2
    | scr _ => simp only [py] at h2; cases h2
  | .lst xs, y, p, q, h1, h2 => by
    simp only [py] at h1
    obtain ⟨ps, e1, rfl⟩ := Option.map_eq_some_iff.mp h1
    cases y with
    | lst ys =>
      simp only [py] at h2
      obtain ⟨qs, e2, rfl⟩ := Option.map_eq_some_iff.mp h2
      have ih := pys_inj xs ys ps qs e1 e2
      simp only [PyData.eqv, D.lst.injEq]
      exact ih
    | non => simp only [py] at h2; cases h2; simp [PyData.eqv]
    | int _ => simp only [py] at h2; cases h2; simp [PyData.eqv]
    | str _ => simp only [py] at h2; split at h2; (cases h2; simp [PyData.eqv]); cases h2
    | tup _ => simp only [py] at h2; obtain ⟨qs, e2, rfl⟩ := Option.map_eq_some_iff.mp h2; simp [PyData.eqv]
    | bl _ => simp only [py] at h2; cases h2
    | dic _ => simp only [py] at h2; cases h2
    | dicT _ => simp only [py] at h2; cases h2
    | scr _ => simp only [py] at h2; cases h2
  | .bl _, _, _, _, h1, _ => by simp only [py] at h1; cases h1
  | .dic _, _, _, _, h1, _ => by simp only [py] at h1; cases h1
  | .dicT _, _, _, _, h1, _ => by simp only [py] at h1; cases h1
  | .scr _, _, _, _, h1, _ => by simp only [py] at h1; cases h1
theorem pys_inj : ∀ (xs ys : List D) (ps qs : List PyData), pys xs = some ps → pys ys = some qs → (PyData.eqvAll ps qs = true ↔ xs = ys)
  | [], [], _, _, h1, h2 => by
    simp only [pys] at h1 h2; cases h1; cases h2; simp [PyData.eqvAll]
  | [], y :: ys, _, _, h1, h2 => by
    simp only [pys] at h1 h2; cases h1
    obtain ⟨q, _, h2⟩ := bind2 h2
    obtain ⟨qs, _, rfl⟩ := Option.map_eq_some_iff.mp h2
    simp [PyData.eqvAll]
  | x :: xs, [], _, _, h1, h2 => by
    simp only [pys] at h1 h2; cases h2
    obtain ⟨q, _, h1⟩ := bind2 h1
    obtain ⟨qs, _, rfl⟩ := Option.map_eq_some_iff.mp h1
    simp [PyData.eqvAll]
  | x :: xs, y :: ys, _, _, h1, h2 => by
    simp only [pys] at h1 h2
    obtain ⟨p, e1, h1⟩ := bind2 h1
    obtain ⟨ps, e2, rfl⟩ := Option.map_eq_some_iff.mp h1
    obtain ⟨q, e3, h2⟩ := bind2 h2
    obtain ⟨qs, e4, rfl⟩ := Option.map_eq_some_iff.mp h2
    simp only [PyData.eqvAll, Bool.and_eq_true, List.cons.injEq]
    rw [py_inj x y p q e1 e3, pys_inj xs ys ps qs e2 e4]
end
mutual
def depD : D → Nat
  | .tup xs => depDs xs + 1
  | .lst xs => depDs xs + 1
  | _ => 0
def depDs : List D → Nat
  | [] => 0
  | x :: xs => max (depD x) (depDs xs)
end
mutual
theorem py_shape : ∀ (x : D) (p : PyData), py x = some p → p.canLay0 = true ∧ p.depth = depD x
  | .non, p, h => by simp only [py] at h; cases h; exact ⟨by simp [PyData.canLay0], by simp [PyData.depth, depD]⟩
  | .int _, p, h => by simp only [py] at h; cases h; exact ⟨by simp [PyData.canLay0], by simp [PyData.depth, depD]⟩
  | .str _, p, h => by
    simp only [py] at h
    split at h
    · rename_i z
      cases h
      exact ⟨by simp only [PyData.canLay0]; exact z, by simp [PyData.depth, depD]⟩
    · cases h
  | .tup xs, p, h => by
    simp only [py] at h
    obtain ⟨ps, e, rfl⟩ := Option.map_eq_some_iff.mp h
    obtain ⟨a, b⟩ := pys_shape xs ps e
    exact ⟨by simp only [PyData.canLay0]; exact a, by simp only [PyData.depth, depD, b]⟩
  | .lst xs, p, h => by
    simp only [py] at h
    obtain ⟨ps, e, rfl⟩ := Option.map_eq_some_iff.mp h
    obtain ⟨a, b⟩ := pys_shape xs ps e
    exact ⟨by simp only [PyData.canLay0]; exact a, by simp only [PyData.depth, depD, b]⟩
  | .bl _, _, h => by simp only [py] at h; cases h
  | .dic _, _, h => by simp only [py] at h; cases h
  | .dicT _, _, h => by simp only [py] at h; cases h
  | .scr _, _, h => by simp only [py] at h; cases h
theorem pys_shape : ∀ (xs : List D) (ps : List PyData), pys xs = some ps → PyData.canLayAll0 ps = true ∧ PyData.depthAll ps = depDs xs
  | [], _, h => by simp only [pys] at h; cases h; exact ⟨by simp [PyData.canLayAll0], by simp [PyData.depthAll, depDs]⟩
  | x :: xs, _, h => by
    simp only [pys] at h
    obtain ⟨p, e1, h⟩ := bind2 h
    obtain ⟨ps, e2, rfl⟩ := Option.map_eq_some_iff.mp h
    obtain ⟨a, b⟩ := py_shape x p e1
    obtain ⟨c, d⟩ := pys_shape xs ps e2
    exact ⟨by simp only [PyData.canLayAll0, Bool.and_eq_true]; exact ⟨a, c⟩, by simp only [PyData.depthAll, depDs, b, d]⟩
end
mutual
theorem dp_of {K : PySem.W.Frag} {H F : Hp} (s : FSub F H) : ∀ (d : D) (p : PyData) (v : V), py d = some p → Rep K F v d → Dp K H v p
  | .non, p, v, h, r => by simp only [py] at h; cases h; cases r; exact .non
  | .int _, p, v, h, r => by simp only [py] at h; cases h; cases r; exact .int _
  | .str _, p, v, h, r => by
    simp only [py] at h
    split at h
    · cases h; cases r; exact .str _
    · cases h
  | .tup xs, p, v, h, r => by
    simp only [py] at h
    obtain ⟨ps, e, rfl⟩ := Option.map_eq_some_iff.mp h
    cases r with
    | tup h1 h2 h3 => exact .tup (.of (s.tup h1)) (dps_of s xs ps _ e h3)
  | .lst xs, p, v, h, r => by
    simp only [py] at h
    obtain ⟨ps, e, rfl⟩ := Option.map_eq_some_iff.mp h
    cases r with
    | lst h1 h2 h3 => exact .lst (.of (s.lst h1)) (dps_of s xs ps _ e h3)
  | .bl _, _, _, h, _ => by simp only [py] at h; cases h
  | .dic _, _, _, h, _ => by simp only [py] at h; cases h
  | .dicT _, _, _, h, _ => by simp only [py] at h; cases h
  | .scr _, _, _, h, _ => by simp only [py] at h; cases h
theorem dps_of {K : PySem.W.Frag} {H F : Hp} (s : FSub F H) : ∀ (ds : List D) (ps : List PyData) (vs : List V), pys ds = some ps → Reps K F vs ds → DpAll K H vs ps
  | [], _, _, h, r => by simp only [pys] at h; cases h; cases r; exact .nil
  | x :: xs, _, _, h, r => by
    simp only [pys] at h
    obtain ⟨p, e1, h⟩ := bind2 h
    obtain ⟨ps, e2, rfl⟩ := Option.map_eq_some_iff.mp h
    cases r with
    | cons r1 r2 => exact .cons (dp_of s x p _ e1 r1) (dps_of s xs ps _ e2 r2)
end
theorem dp_look {K : PySem.W.Frag} {H F : Hp} (s : FSub F H) {d : D} {p : PyData} {v : V} (h : py d = some p) (r : RepL K H F v d) : Dp K H v p := by
  cases r with
  | of r => exact dp_of s d p v h r
  | @lst a vs ds h1 h2 h3 =>
    simp only [py] at h
    obtain ⟨ps, e, rfl⟩ := Option.map_eq_some_iff.mp h
    exact .lst (.of h1) (dps_of s ds ps _ e h3)
  | dic _ _ => simp only [py] at h; cases h
  | dicT _ _ => simp only [py] at h; cases h
theorem py_shaped {d : D} {p : PyData} (h : py d = some p) (hd : depD d ≤ 64) : SeqAt.shaped p = true := by
  obtain ⟨a, b⟩ := py_shape d p h
  show (p.canLay0 && decide (p.depth ≤ 64)) = true
  rw [Bool.and_eq_true]
  exact ⟨a, decide_eq_true (by omega)⟩
noncomputable def eqD (x y : D) : Option Bool := match eqS x y with
  | some b => some b
  | none => match py x, py y with
    | some _, some _ => if depD x ≤ 64 ∧ depD y ≤ 64 then some (decide (x = y)) else none
    | _, _ => none
noncomputable def opEqA (x y : D) : Option D := (eqD x y).map .bl
noncomputable def opNeA (x y : D) : Option D := (eqD x y).map fun b => .bl !b
def rEqA (K : PySem.W.Frag) : R2 := fun x y H Q => rEq x y H Q ∨ rEqD K x y H Q
def rNeA (K : PySem.W.Frag) : R2 := fun x y H Q => rNe x y H Q ∨ rNeD K x y H Q
theorem op_eqA {X : Cx} (hu : X.A.units + 64 < cLine) : OpR X (compareOp .Eq) (rEqA X.K) := op_eq.or (op_eqD hu)
theorem op_neA {X : Cx} (hu : X.A.units + 64 < cLine) : OpR X (compareOp .NotEq) (rNeA X.K) := op_ne.or (op_neD hu)
theorem eqD_cases {K : PySem.W.Frag} {H F : Hp} {x y : V} {dx dy : D} {b : Bool} (s : FSub F H) (rx : RepL K H F x dx) (ry : RepL K H F y dy) (h : eqD dx dy = some b) :
    (scal x y = true ∧ decide (x = y) = b) ∨ ∃ d e, Dp K H x d ∧ Dp K H y e ∧ SeqAt.shaped d = true ∧ SeqAt.shaped e = true ∧ PyData.eqv d e = b := by
  unfold eqD at h
  split at h
  · rename_i b' e
    cases h
    exact .inl (eqS_ok rx ry e)
  · split at h
    · rename_i p q e1 e2
      split at h
      · rename_i z
        cases h
        refine .inr ⟨p, q, dp_look s e1 rx, dp_look s e2 ry, py_shaped e1 z.1, py_shaped e2 z.2, ?_⟩
        have := py_inj dx dy p q e1 e2
        by_cases w : dx = dy
        · rw [decide_eq_true w]; exact this.mpr w
        · rw [decide_eq_false w]
          cases r : PyData.eqv p q with
          | false => rfl
          | true => exact absurd (this.mp r) w
      · cases h
    · cases h
theorem d_eqA {K : PySem.W.Frag} : D2Ok K (rEqA K) opEqA := by
  intro x y H F dx dy d Q s rx ry hd q
  obtain ⟨b, h1, rfl⟩ := Option.map_eq_some_iff.mp hd
  rcases eqD_cases s rx ry h1 with ⟨h2, h3⟩ | ⟨p, p', h2, h3, h4, h5, h6⟩
  · exact .inl ⟨h2, by rw [h3]; exact q _ H F (.refl s) .bl⟩
  · exact .inr ⟨p, p', h2, h3, h4, h5, by rw [h6]; exact q _ H F (.refl s) .bl⟩
theorem d_neA {K : PySem.W.Frag} : D2Ok K (rNeA K) opNeA := by
  intro x y H F dx dy d Q s rx ry hd q
  obtain ⟨b, h1, rfl⟩ := Option.map_eq_some_iff.mp hd
  rcases eqD_cases s rx ry h1 with ⟨h2, h3⟩ | ⟨p, p', h2, h3, h4, h5, h6⟩
  · exact .inl ⟨h2, by rw [h3]; exact q _ H F (.refl s) .bl⟩
  · exact .inr ⟨p, p', h2, h3, h4, h5, by rw [h6]; exact q _ H F (.refl s) .bl⟩

/-! ### in -/
def rInT (K : PySem.W.Frag) (neg : Bool) : R2 := fun x y H Q => ∃ d e, (∃ ds, (e = .list ds ∨ e = .tuple ds) ∧ Dp K H x d ∧ Dp K H y e ∧ SeqAt.shaped d = true ∧ SeqAt.shaped e = true ∧ Q (.bl (if neg then !(ds.any fun z => PyData.eqv z d) else ds.any fun z => PyData.eqv z d)) H)
theorem room_in2 {A : Around} {d : PyData} {n : Nat} (h : SeqAt.shaped d = true) (hu : A.units + 65 < cLine) : A.units + 1 + min n d.depth < cLine := by
  have := SeqAt.depth_of_shaped h
  omega
theorem op_inT {X : Cx} (hu : X.A.units + 65 < cLine) : OpR X (compareOp .In) (rInT X.K false) := by
  intro pins s σ H x y v u Q I rx ry h
  obtain ⟨d, e, ds, he, hd, hy, sd, se, q⟩ := h
  obtain ⟨as, r1⟩ := Dp.reads I d x v hd rx
  obtain ⟨bs, r2⟩ := Dp.reads I e y u hy ry
  have q : Q (.bl (ds.any fun z => PyData.eqv z d)) H := q
  rcases he with rfl | rfl
  · exact SeqAt.in_list_reads r2 r1 (SeqAt.canLay_of_shaped se) (SeqAt.canLay_of_shaped sd) (room_in2 sd hu) ⟨.bl _, H, I, rfl, q⟩
  · exact SeqAt.in_tuple_reads r2 r1 (SeqAt.canLay_of_shaped se) (SeqAt.canLay_of_shaped sd) (room_in2 sd hu) ⟨.bl _, H, I, rfl, q⟩
theorem op_notInT {X : Cx} (hu : X.A.units + 65 < cLine) : OpR X (compareOp .NotIn) (rInT X.K true) := by
  intro pins s σ H x y v u Q I rx ry h
  obtain ⟨d, e, ds, he, hd, hy, sd, se, q⟩ := h
  obtain ⟨as, r1⟩ := Dp.reads I d x v hd rx
  obtain ⟨bs, r2⟩ := Dp.reads I e y u hy ry
  have q : Q (.bl (!ds.any fun z => PyData.eqv z d)) H := q
  rcases he with rfl | rfl
  · exact SeqAt.notIn_list_reads r2 r1 (SeqAt.canLay_of_shaped se) (SeqAt.canLay_of_shaped sd) (room_in2 sd hu) ⟨.bl _, H, I, rfl, q⟩
  · exact SeqAt.notIn_tuple_reads r2 r1 (SeqAt.canLay_of_shaped se) (SeqAt.canLay_of_shaped sd) (room_in2 sd hu) ⟨.bl _, H, I, rfl, q⟩
noncomputable def inD (x y : D) : Option Bool := (itemsOf y).bind fun ds => match py x, py y with
  | some _, some _ => if depD x ≤ 64 ∧ depD y ≤ 64 then some (decide (x ∈ ds)) else none
  | _, _ => none
noncomputable def opIn (x y : D) : Option D := (inD x y).map .bl
noncomputable def opNotIn (x y : D) : Option D := (inD x y).map fun b => .bl !b
theorem any_mem {x : D} {p : PyData} (hx : py x = some p) : ∀ (ds : List D) (ps : List PyData), pys ds = some ps → ((ps.any fun z => PyData.eqv z p) = true ↔ x ∈ ds)
  | [], _, h => by simp only [pys] at h; cases h; simp
  | y :: ys, _, h => by
    simp only [pys] at h
    obtain ⟨q, e1, h⟩ := bind2 h
    obtain ⟨qs, e2, rfl⟩ := Option.map_eq_some_iff.mp h
    rw [List.any_cons, Bool.or_eq_true, List.mem_cons, any_mem hx ys qs e2, py_inj y x q p e1 hx]
    constructor
    · rintro (h | h)
      · exact .inl h.symm
      · exact .inr h
    · rintro (h | h)
      · exact .inl h.symm
      · exact .inr h
theorem inD_cases {K : PySem.W.Frag} {H F : Hp} {x y : V} {dx dy : D} {b : Bool} (s : FSub F H) (rx : RepL K H F x dx) (ry : RepL K H F y dy) (h : inD dx dy = some b) :
    ∃ d e, ∃ ds, (e = .list ds ∨ e = .tuple ds) ∧ Dp K H x d ∧ Dp K H y e ∧ SeqAt.shaped d = true ∧ SeqAt.shaped e = true ∧ (ds.any fun z => PyData.eqv z d) = b := by
  unfold inD at h
  obtain ⟨ds, h1, h⟩ := bind2 h
  split at h
  · rename_i p q e1 e2
    split at h
    · rename_i z
      cases h
      have main : ∀ ps, pys ds = some ps → (ps.any fun z => PyData.eqv z p) = decide (dx ∈ ds) := fun ps e3 => by
        have := any_mem e1 ds ps e3
        by_cases w : dx ∈ ds
        · rw [decide_eq_true w]; exact this.mpr w
        · rw [decide_eq_false w]
          cases r : (ps.any fun z => PyData.eqv z p) with
          | false => rfl
          | true => exact absurd (this.mp r) w
      have e2' := e2
      cases dy with
      | lst ys =>
        cases h1
        simp only [py] at e2'
        obtain ⟨ps, e3, rfl⟩ := Option.map_eq_some_iff.mp e2'
        exact ⟨p, _, ps, .inl rfl, dp_look s e1 rx, dp_look s e2 ry, py_shaped e1 z.1, py_shaped e2 z.2, main ps e3⟩
      | tup ys =>
        cases h1
        simp only [py] at e2'
        obtain ⟨ps, e3, rfl⟩ := Option.map_eq_some_iff.mp e2'
        exact ⟨p, _, ps, .inr rfl, dp_look s e1 rx, dp_look s e2 ry, py_shaped e1 z.1, py_shaped e2 z.2, main ps e3⟩
      | _ => cases h1
    · cases h
  · cases h
theorem d_in {K : PySem.W.Frag} : D2Ok K (rInT K false) opIn := by
  intro x y H F dx dy d Q s rx ry hd q
  obtain ⟨b, h1, rfl⟩ := Option.map_eq_some_iff.mp hd
  obtain ⟨p, e, ds, h2, h3, h4, h5, h6, h7⟩ := inD_cases s rx ry h1
  exact ⟨p, e, ds, h2, h3, h4, h5, h6, by show Q (.bl (ds.any fun z => PyData.eqv z p)) H; rw [h7]; exact q _ H F (.refl s) .bl⟩
theorem d_notIn {K : PySem.W.Frag} : D2Ok K (rInT K true) opNotIn := by
  intro x y H F dx dy d Q s rx ry hd q
  obtain ⟨b, h1, rfl⟩ := Option.map_eq_some_iff.mp hd
  obtain ⟨p, e, ds, h2, h3, h4, h5, h6, h7⟩ := inD_cases s rx ry h1
  exact ⟨p, e, ds, h2, h3, h4, h5, h6, by show Q (.bl (!ds.any fun z => PyData.eqv z p)) H; rw [h7]; exact q _ H F (.refl s) .bl⟩
/-! ### is None -/
def opIsN : D → D → Option D
  | .non, .non => some (.bl true)
  | _, .non => some (.bl false)
  | _, _ => none
def opNotN : D → D → Option D
  | .non, .non => some (.bl false)
  | _, .non => some (.bl true)
  | _, _ => none
theorem RepL.isnon {K : PySem.W.Frag} {H F : Hp} {v : V} {d : D} (r : RepL K H F v d) : v = .non ↔ d = .non := by
  cases r with
  | of r => cases r <;> simp
  | _ => simp
theorem d_isN {K : PySem.W.Frag} : D2Ok K (fun x y H Q => y = .non ∧ Q (.bl (decide (x = .non))) H) opIsN := by
  intro x y H F dx dy d Q s rx ry hd q
  have hn := rx.isnon
  unfold opIsN at hd
  split at hd
  · cases hd
    refine ⟨ry.non, ?_⟩
    rw [decide_eq_true (hn.mpr rfl)]
    exact q _ H F (.refl s) .bl
  · rename_i h
    cases hd
    refine ⟨ry.non, ?_⟩
    rw [decide_eq_false (fun z => h (hn.mp z))]
    exact q _ H F (.refl s) .bl
  · cases hd
theorem d_notN {K : PySem.W.Frag} : D2Ok K (fun x y H Q => y = .non ∧ Q (.bl (!decide (x = .non))) H) opNotN := by
  intro x y H F dx dy d Q s rx ry hd q
  have hn := rx.isnon
  unfold opNotN at hd
  split at hd
  · cases hd
    refine ⟨ry.non, ?_⟩
    rw [decide_eq_true (hn.mpr rfl)]
    exact q _ H F (.refl s) .bl
  · rename_i h
    cases hd
    refine ⟨ry.non, ?_⟩
    rw [decide_eq_false (fun z => h (hn.mp z))]
    exact q _ H F (.refl s) .bl
  · cases hd
end PL
/-! PL7: the methods of lists, slices, ranges as lists, sets' sizes, the deal. -/
namespace PL
open PySem PySem.Spec L2
set_option autoImplicit false

def cellL (m : Store) (c : Nat) : Option (List D) := match m[c]? with
  | some (.lst xs) => some xs
  | _ => none
theorem cellL_eq {m : Store} {c : Nat} {xs : List D} (h : cellL m c = some xs) : m[c]? = some (.lst xs) := by
  unfold cellL at h
  split at h
  · rename_i e; cases h; exact e
  · cases h
section
variable {K : PySem.W.Frag} {F H : Hp} {as : Cs} {m : Store} {a : Addr} {c : Nat} {o : O} {ho : HO}
theorem HeapOk.write (hp : HeapOk K H F as m) (ha : as.c[c]? = some a) (hF : F a = none) (y : CellOk K (upd H a ho) F a o) : HeapOk K (upd H a ho) F as (m.set c o) := by
  have hl : c < m.length := by rw [← hp.len]; exact (List.getElem?_eq_some_iff.mp ha).1
  refine ⟨fun b u q => ?_, by rw [List.length_set]; exact hp.len, hp.nd, fun b q => ?_, fun c' b u q1 q2 => ?_, fun p hq => ?_, hp.pnd⟩
  · rw [upd_ne (fun z => by rw [z, hF] at q; cases q)]
    exact hp.sub b u q
  · by_cases e : b = a
    · rw [e, upd_same]; simp
    · rw [upd_ne e]; exact hp.there b q
  · by_cases hc : c = c'
    · subst hc
      rw [ha] at q1
      cases q1
      rw [List.getElem?_set_self hl] at q2
      cases q2
      exact y
    · rw [List.getElem?_set_ne hc] at q2
      have nb : b ≠ a := fun z => by
        rw [z] at q1
        exact hc (nd_ix hp.nd ha q1)
      have z := hp.cell c' b u q1 q2
      cases u with
      | lst ds => obtain ⟨y1, z, vs, y2, y3⟩ := z; exact ⟨y1, z, vs, by rw [upd_ne nb]; exact y2, y3⟩
      | dic ds => obtain ⟨y1, vs, y2, y3⟩ := z; exact ⟨y1, vs, by rw [upd_ne nb]; exact y2, y3⟩
      | dicT ds => obtain ⟨y1, vs, y2, y3⟩ := z; exact ⟨y1, vs, by rw [upd_ne nb]; exact y2, y3⟩
      | frz d => exact z
  · obtain ⟨p1, p2, p3⟩ := hp.prot p hq
    exact ⟨by rw [upd_ne (fun z => p3 (by rw [z]; exact List.mem_of_getElem? ha))]; exact p1, p2, p3⟩
theorem HeapOk.cellLst {ds : List D} (hp : HeapOk K H F as m) (ha : as.c[c]? = some a) (hm : cellL m c = some ds) : F a = none ∧ ds.length ≤ sizeLine ∧ ∃ vs, H a = some (.lst vs) ∧ Reps K F vs ds := hp.cell c a _ ha (cellL_eq hm)
end

/-! ### append, extend, pop -/
def eApp (fx fe : Ex) : Ex := fun ρ m => (fx ρ m).bind fun p => match p.1 with
  | .own c => (cellL p.2 c).bind fun _ => (fe ρ p.2).bind fun q => (frzE q.2 q.1).bind fun d => (cellL d.2 c).bind fun xs => if xs.length < big then some (.d .non, d.2.set c (.lst (xs ++ [d.1]))) else none
  | _ => none
def eExt (fx fe : Ex) : Ex := fun ρ m => (fx ρ m).bind fun p => match p.1 with
  | .own c => (cellL p.2 c).bind fun _ => (fe ρ p.2).bind fun q => (frzE q.2 q.1).bind fun d => (cellL d.2 c).bind fun xs => match d.1 with
    | .lst ys => if xs.length + ys.length ≤ big then some (.d .non, d.2.set c (.lst (xs ++ ys))) else none
    | _ => none
  | _ => none
def ePop (fx : Ex) : Ex := fun ρ m => (fx ρ m).bind fun p => match p.1 with
  | .own c => (cellL p.2 c).bind fun xs => (xs[xs.length - 1]?).bind fun d => some (.d d, p.2.set c (.lst xs.dropLast))
  | _ => none
section
variable {X : Cx} {o e : Expr} {fx fe : Ex} {apos cpos : Pos}
theorem r_app (ho : PE X o (tE X.K fx)) (he : PE X e (tE X.K fe))
    (hbase : attributeBase o "append" X.env (eval o X.env) = eval o X.env := by rfl)
    (hfew : ((backTo cpos (starEach [e] X.env)).all (fun x => !x.1) && (backToKw cpos (keywordEach [] X.env)).all (fun x => x.1.isSome)
      && decide ([e].length + ([] : List Keyword).length + (if ([] : List Keyword).isEmpty then 0 else 1) < 30)) = true := by rfl)
    (hline : (apos.endLine == cpos.line) = true := by rfl) (hs : starEach [e] X.env = (false, eval e X.env) :: starEach [] X.env := by rfl) (hplain : (backTo cpos (starEach [] X.env)).any (·.1) = false := by rfl) :
    PE X (.Call (.Attribute o "append" apos) [e] [] cpos) (tE X.K (eApp fx fe)) :=
  PE_imp (pe_bm PySem.F.plainAttrs_list PySem.F.slot_list_append PySem.F.type_list_append mt_append ho (pa_cons he pa_nil hs) hbase hfew hline hs hplain) fun σ H Q h => by
    obtain ⟨ρ, m, F, as, e, m', env, hp, hf, q⟩ := h
    obtain ⟨⟨e1, m1⟩, h1, hf⟩ := bind2 hf
    cases e1 with
    | own c =>
      obtain ⟨xs0, h2, hf⟩ := bind2 hf
      obtain ⟨⟨e2, m2⟩, h3, hf⟩ := bind2 hf
      obtain ⟨⟨d, m3⟩, h4, hf⟩ := bind2 hf
      obtain ⟨xs, h5, hf⟩ := bind2 hf
      split at hf
      · rename_i z
        cases hf
        refine estep env hp h1 fun v1 H1 F1 as1 x1 hp1 env1 r1 => ?_
        cases r1 with
        | @own a _ r1 =>
          obtain ⟨_, _, vs0, g1, _⟩ := hp1.cellLst r1 h2
          refine ⟨.inl ⟨rfl, vs0, .of g1⟩, estep env1 hp1 h3 fun v2 H2 F2 as2 x2 hp2 env2 r2 => ?_⟩
          obtain ⟨F3, x3, hp3, r3⟩ := frzE_ok hp2 r2 h4
          have ra := pre_get x2.2.1 r1
          obtain ⟨f1, z1, vs, g2, rv⟩ := hp3.cellLst ra h5
          refine ⟨a, vs, v2, rfl, rfl, g2, by rw [rv.length]; exact big_lt z, ?_⟩
          exact q _ _ F3 as2 (x1.trans (x2.trans x3)) (hp3.write ra f1 ⟨f1, by rw [List.length_append]; exact big_le z, _, upd_same, rv.append (.cons r3 .nil)⟩) (.d .non)
      · cases hf
    | _ => cases hf
theorem r_ext (ho : PE X o (tE X.K fx)) (he : PE X e (tE X.K fe))
    (hbase : attributeBase o "extend" X.env (eval o X.env) = eval o X.env := by rfl)
    (hfew : ((backTo cpos (starEach [e] X.env)).all (fun x => !x.1) && (backToKw cpos (keywordEach [] X.env)).all (fun x => x.1.isSome)
      && decide ([e].length + ([] : List Keyword).length + (if ([] : List Keyword).isEmpty then 0 else 1) < 30)) = true := by rfl)
    (hline : (apos.endLine == cpos.line) = true := by rfl) (hs : starEach [e] X.env = (false, eval e X.env) :: starEach [] X.env := by rfl) (hplain : (backTo cpos (starEach [] X.env)).any (·.1) = false := by rfl) :
    PE X (.Call (.Attribute o "extend" apos) [e] [] cpos) (tE X.K (eExt fx fe)) :=
  PE_imp (pe_bm PySem.F.plainAttrs_list PySem.F.slot_list_extend PySem.F.type_list_extend mt_extend ho (pa_cons he pa_nil hs) hbase hfew hline hs hplain) fun σ H Q h => by
    obtain ⟨ρ, m, F, as, e, m', env, hp, hf, q⟩ := h
    obtain ⟨⟨e1, m1⟩, h1, hf⟩ := bind2 hf
    cases e1 with
    | own c =>
      obtain ⟨xs0, h2, hf⟩ := bind2 hf
      obtain ⟨⟨e2, m2⟩, h3, hf⟩ := bind2 hf
      obtain ⟨⟨d, m3⟩, h4, hf⟩ := bind2 hf
      obtain ⟨xs, h5, hf⟩ := bind2 hf
      cases d with
      | lst ys =>
        simp only at hf
        split at hf
        · rename_i z
          cases hf
          refine estep env hp h1 fun v1 H1 F1 as1 x1 hp1 env1 r1 => ?_
          cases r1 with
          | @own a _ r1 =>
            obtain ⟨_, _, vs0, g1, _⟩ := hp1.cellLst r1 h2
            refine ⟨.inl ⟨rfl, vs0, .of g1⟩, estep env1 hp1 h3 fun v2 H2 F2 as2 x2 hp2 env2 r2 => ?_⟩
            obtain ⟨F3, x3, hp3, r3⟩ := frzE_ok hp2 r2 h4
            have ra := pre_get x2.2.1 r1
            obtain ⟨f1, z1, vs, g2, rv⟩ := hp3.cellLst ra h5
            obtain ⟨b, ws, rfl, g3, z3, rw'⟩ := RepL.list hp3.sub (.of r3 : RepL X.K H2 F3 v2 (.lst ys))
            refine ⟨a, b, vs, ws, rfl, rfl, g2, g3, by rw [rv.length, rw'.length]; exact big_le z, ?_⟩
            exact q _ _ F3 as2 (x1.trans (x2.trans x3)) (hp3.write ra f1 ⟨f1, by rw [List.length_append]; exact big_le z, _, upd_same, rv.append rw'⟩) (.d .non)
        · cases hf
      | _ => cases hf
    | _ => cases hf
theorem Reps.dropLast {K : PySem.W.Frag} {F : Hp} {vs : List V} {ds : List D} (r : Reps K F vs ds) : Reps K F vs.dropLast ds.dropLast := by
  rw [List.dropLast_eq_take, List.dropLast_eq_take, r.length]
  exact r.take _
theorem r_pop (ho : PE X o (tE X.K fx)) (hbase : attributeBase o "pop" X.env (eval o X.env) = eval o X.env := by rfl) (hline : (apos.endLine == cpos.line) = true := by rfl) :
    PE X (.Call (.Attribute o "pop" apos) [] [] cpos) (tE X.K (ePop fx)) :=
  PE_imp (pe_bm0 PySem.F.plainAttrs_list PySem.F.slot_list_pop PySem.F.type_list_pop mt_pop ho hbase hline) fun σ H Q h => by
    obtain ⟨ρ, m, F, as, e, m', env, hp, hf, q⟩ := h
    obtain ⟨⟨e1, m1⟩, h1, hf⟩ := bind2 hf
    cases e1 with
    | own c =>
      obtain ⟨xs, h2, hf⟩ := bind2 hf
      obtain ⟨d, h3, hf⟩ := bind2 hf
      cases hf
      refine estep env hp h1 fun v1 H1 F1 as1 x1 hp1 env1 r1 => ?_
      cases r1 with
      | @own a _ r1 =>
        obtain ⟨f1, z1, vs, g1, rv⟩ := hp1.cellLst r1 h2
        obtain ⟨v, e1, e2⟩ := rv.get h3
        refine ⟨.inl ⟨rfl, vs, .of g1⟩, a, vs, v, rfl, rfl, g1, by rw [rv.length]; exact e1, ?_⟩
        exact q _ _ F1 as1 x1 (hp1.write r1 f1 ⟨f1, by rw [List.length_dropLast]; omega, _, upd_same, rv.dropLast⟩) (.d e2)
    | _ => cases hf
end

/-! ### count, index: of a list of ints -/
/-- a method of one argument that changes nothing -/
def eM2 (op : D → D → Option D) (fx fe : Ex) : Ex := fun ρ m => (fx ρ m).bind fun p => (look p.2 p.1).bind fun d0 => match d0 with
  | .lst _ => (fe ρ p.2).bind fun q => g2 op p.1 q.1 q.2
  | _ => none
def opCount : D → D → Option D
  | .lst xs, .int k => (intsOf xs).map fun ns => .int (ns.count k : Nat)
  | _, _ => none
def opIndex : D → D → Option D
  | .lst xs, .int k => (intsOf xs).bind fun ns => if k ∈ ns then some (.int (ns.idxOf k : Nat)) else none
  | _, _ => none
section
variable {X : Cx} {o e : Expr} {fx fe : Ex} {apos cpos : Pos}
theorem m2_read {r : V → List V → Hp → VK → Prop} {op : D → D → Option D} (hd : D2Ok X.K (fun x y => r x [y]) op) : ∀ σ H Q, tE X.K (eM2 op fx fe) σ H Q → tBM X.K "list" r (tE X.K fx) (tCons (tE X.K fe) tNil) σ H Q := by
  intro σ H Q h
  obtain ⟨ρ, m, F, as, e, m', env, hp, hf, q⟩ := h
  obtain ⟨⟨e1, m1⟩, h1, hf⟩ := bind2 hf
  obtain ⟨d0, h2, hf⟩ := bind2 hf
  cases d0 with
  | lst xs =>
    obtain ⟨⟨e2, m2⟩, h3, hf⟩ := bind2 hf
    refine estep env hp h1 fun v1 H1 F1 as1 x1 hp1 env1 r1 => ?_
    obtain ⟨a, vs, rfl, g1, z1, rr⟩ := (look_rep hp1 r1 h2).list hp1.sub
    refine ⟨.inl ⟨rfl, vs, .of g1⟩, estep env1 hp1 h3 fun v2 H2 F2 as2 x2 hp2 env2 r2 => ?_⟩
    exact hd.r2 _ v2 H2 F2 as2 m2 e1 e2 e m' Q hp2 (r1.ext x2) r2 hf fun v H' F' as' x3 hp3 r3 => q v H' F' as' (x1.trans (x2.trans x3)) hp3 r3
  | _ => cases hf
theorem d_count {K : PySem.W.Frag} : D2Ok K (fun x y => rCntI K x [y]) opCount := by
  intro x y H F dx dy d Q s rx ry hd q
  unfold opCount at hd
  split at hd
  · obtain ⟨ns, h1, rfl⟩ := Option.map_eq_some_iff.mp hd
    obtain ⟨a, rfl, hq⟩ := list_ints s rx h1
    exact ⟨a, ns, _, rfl, by rw [ry.int], hq, q _ H F (.refl s) .int⟩
  · cases hd
theorem flat_ints (ns : List Int) : (ns.map V.int).all flatV = true := by
  rw [List.all_map]
  exact List.all_eq_true.mpr fun _ _ => rfl
theorem eqV_int {a b : Int} : eqV (.int a) (.int b) = decide (a = b) := by
  show (_ : Bool) = _
  unfold eqV
  first
    | rfl
    | simp
theorem idxOf_get {k : Int} : ∀ {ns : List Int}, k ∈ ns → ns[ns.idxOf k]? = some k ∧ ∀ (j : Nat) (z : Int), j < ns.idxOf k → ns[j]? = some z → z ≠ k
  | [], h => nomatch h
  | n :: ns, h => by
    by_cases e : n = k
    · subst e
      rw [List.idxOf_cons_self]
      exact ⟨rfl, fun j z hj => absurd hj (Nat.not_lt_zero _)⟩
    · have h2 : k ∈ ns := by
        rcases List.mem_cons.mp h with q | q
        · exact absurd q.symm e
        · exact q
      obtain ⟨h3, h4⟩ := idxOf_get h2
      have ec : (n :: ns).idxOf k = ns.idxOf k + 1 := by
        rw [List.idxOf_cons]
        have : (n == k) = false := beq_eq_false_iff_ne.mpr e
        rw [this]
        rfl
      rw [ec]
      refine ⟨h3, fun j z hj hz => ?_⟩
      cases j with
      | zero => cases hz; exact e
      | succ j => exact h4 j z (by omega) hz
theorem d_index {K : PySem.W.Frag} : D2Ok K (fun x y => rIndex K x [y]) opIndex := by
  intro x y H F dx dy d Q s rx ry hd q
  unfold opIndex at hd
  split at hd
  · obtain ⟨ns, h1, hd⟩ := bind2 hd
    split at hd
    · rename_i hk
      cases hd
      obtain ⟨a, rfl, hq⟩ := list_ints s rx h1
      obtain ⟨h3, h4⟩ := idxOf_get hk
      have ey := ry.int
      subst ey
      refine ⟨a, ns.map V.int, .int _, ns.idxOf _, .int _, rfl, rfl, hq, rfl, flat_ints ns, by rw [List.getElem?_map, h3]; rfl, by rw [eqV_int]; simp, fun j z hj hz => ?_, q _ H F (.refl s) .int⟩
      rw [List.getElem?_map] at hz
      obtain ⟨z', e1, rfl⟩ := Option.map_eq_some_iff.mp hz
      rw [eqV_int]
      exact decide_eq_false (h4 j z' hj e1)
    · cases hd
  · cases hd
theorem r_count (ho : PE X o (tE X.K fx)) (he : PE X e (tE X.K fe))
    (hbase : attributeBase o "count" X.env (eval o X.env) = eval o X.env := by rfl)
    (hfew : ((backTo cpos (starEach [e] X.env)).all (fun x => !x.1) && (backToKw cpos (keywordEach [] X.env)).all (fun x => x.1.isSome)
      && decide ([e].length + ([] : List Keyword).length + (if ([] : List Keyword).isEmpty then 0 else 1) < 30)) = true := by rfl)
    (hline : (apos.endLine == cpos.line) = true := by rfl) (hs : starEach [e] X.env = (false, eval e X.env) :: starEach [] X.env := by rfl) (hplain : (backTo cpos (starEach [] X.env)).any (·.1) = false := by rfl) :
    PE X (.Call (.Attribute o "count" apos) [e] [] cpos) (tE X.K (eM2 opCount fx fe)) :=
  PE_imp (pe_bm PySem.F.plainAttrs_list PySem.F.slot_list_count PySem.F.type_list_count mt_lcount ho (pa_cons he pa_nil hs) hbase hfew hline hs hplain) (m2_read d_count)
theorem r_index (ho : PE X o (tE X.K fx)) (he : PE X e (tE X.K fe))
    (hbase : attributeBase o "index" X.env (eval o X.env) = eval o X.env := by rfl)
    (hfew : ((backTo cpos (starEach [e] X.env)).all (fun x => !x.1) && (backToKw cpos (keywordEach [] X.env)).all (fun x => x.1.isSome)
      && decide ([e].length + ([] : List Keyword).length + (if ([] : List Keyword).isEmpty then 0 else 1) < 30)) = true := by rfl)
    (hline : (apos.endLine == cpos.line) = true := by rfl) (hs : starEach [e] X.env = (false, eval e X.env) :: starEach [] X.env := by rfl) (hplain : (backTo cpos (starEach [] X.env)).any (·.1) = false := by rfl) :
    PE X (.Call (.Attribute o "index" apos) [e] [] cpos) (tE X.K (eM2 opIndex fx fe)) :=
  PE_imp (pe_bm PySem.F.plainAttrs_list PySem.F.slot_list_index PySem.F.type_list_index mt_index ho (pa_cons he pa_nil hs) hbase hfew hline hs hplain) (m2_read d_index)
end

/-! ### xs[i] = v -/
def sPutL (fo fi fv : Ex) : Sx := fun ρ m => (fv ρ m).bind fun p => (fo ρ p.2).bind fun q => (fi ρ q.2).bind fun r => match q.1 with
  | .own c => (intOf r.2 r.1).bind fun i => (frzE r.2 p.1).bind fun d => (cellL d.2 c).bind fun xs => (ixN xs.length i).bind fun j => some (.nx, ρ, d.2.set c (.lst (xs.set j d.1)))
  | _ => none
section
variable {X : Cx} {o i e : Expr} {fo fi fv : Ex} {pos pos' : Pos}
theorem r_putL (ho : PE X o (tE X.K fo)) (hi : PE X i (tE X.K fi)) (hv : PE X e (tE X.K fv)) (ha : ∀ v, assign (.Subscript o i pos') X.env v = (do
      let ov ← holding [v] (eval o X.env)
      let iv ← holding [v, ov] (eval i X.env)
      standAt pos'
      holding [v, ov, iv] (setItem ov iv v)
      release [v, ov, iv] []) := by intro _; rfl) (hs : swapsWithSole [.Subscript o i pos'] e pos.line X.env = pure false := by rfl) (hw : swappedStores [.Subscript o i pos'] e X.env = pure none := by rfl)
    (h1 : (assignEach [.Subscript o i pos'] X.env).map (·.2) = [assign (.Subscript o i pos') X.env] := by rfl) : PS X (.Assign [.Subscript o i pos'] e pos) (tS X.K (sPutL fo fi fv)) :=
  PS_imp (ps_asg hv (pg_sub ho hi set_list ha) hs hw h1) fun D σ H h => by
    obtain ⟨ρ, m, F, as, fl, ρ', m', env, hp, hf, q⟩ := h
    obtain ⟨⟨e1, m1⟩, g1, hf⟩ := bind2 hf
    obtain ⟨⟨e2, m2⟩, g2, hf⟩ := bind2 hf
    obtain ⟨⟨e3, m3⟩, g3, hf⟩ := bind2 hf
    cases e2 with
    | own c =>
      obtain ⟨k, g4, hf⟩ := bind2 hf
      obtain ⟨⟨d, m4⟩, g5, hf⟩ := bind2 hf
      obtain ⟨xs, g6, hf⟩ := bind2 hf
      obtain ⟨j, g7, hf⟩ := bind2 hf
      cases hf
      refine estep env hp g1 fun v1 H1 F1 as1 x1 hp1 env1 r1 => estep env1 hp1 g2 fun v2 H2 F2 as2 x2 hp2 env2 r2 => estep env2 hp2 g3 fun v3 H3 F3 as3 x3 hp3 env3 r3 => ?_
      have e3' := intOf_rep hp3 r3 g4
      subst e3'
      obtain ⟨F4, x4, hp4, r4⟩ := frzE_ok hp3 (r1.ext (x2.trans x3)) g5
      cases r2 with
      | @own a _ r2 =>
        have ra := pre_get x3.2.1 r2
        obtain ⟨f1, z1, vs, g8, rv⟩ := hp4.cellLst ra g6
        have xx := x1.trans (x2.trans (x3.trans x4))
        refine ⟨a, vs, k, j, rfl, rfl, g8, by rw [rv.length]; exact g7, ?_⟩
        exact q σ _ F4 as3 xx (env3.ext x4) (hp4.write ra f1 ⟨f1, by rw [List.length_set]; exact z1, _, upd_same, Reps.set r4 j rv⟩)
    | _ => cases hf
end

/-! ### slices -/
abbrev Ox := Rho → Store → Option (Option Int × Store)
def oNone : Ox := fun _ m => some (none, m)
def oSome (f : Ex) : Ox := fun ρ m => (f ρ m).bind fun p => (intOf p.2 p.1).bind fun i => some (some i, p.2)
def tO (K : PySem.W.Frag) (f : Ox) : TO := fun σ H Q => ∃ ρ m F as o m', EnvOk K F as σ ρ ∧ HeapOk K H F as m ∧ f ρ m = some (o, m') ∧ ∀ H' F' as', Ext F F' as as' → HeapOk K H' F' as' m' → Q o H'
def cutD {α : Type} (xs : List α) (lo hi : Option Int) : List α := (xs.drop (HT.sIx xs.length 0 lo)).take (HT.sIx xs.length xs.length hi - HT.sIx xs.length 0 lo)
def opSl : D → Option Int → Option Int → Option D
  | .lst xs, lo, hi => some (.lst (cutD xs lo hi))
  | .tup xs, lo, hi => some (.tup (cutD xs lo hi))
  | _, _, _ => none
def eSl (f : Ex) (l h : Ox) : Ex := fun ρ m => (f ρ m).bind fun p => (l ρ p.2).bind fun q => (h ρ q.2).bind fun r => (look r.2 p.1).bind fun d => (opSl d q.1 r.1).bind fun d' => some (.d d', r.2)
theorem cutD_le {α : Type} (xs : List α) (lo hi : Option Int) : (cutD xs lo hi).length ≤ xs.length := by
  unfold cutD
  rw [List.length_take, List.length_drop]
  omega
section
variable {X : Cx} {e : Expr} {el eh : Option Expr} {e1 : Expr} {f : Ex} {l h : Ox} {p2 pos : Pos}
theorem PO_imp {o : Option Expr} {t t' : TO} (h : PO X o t) (i : ∀ σ H Q, t' σ H Q → t σ H Q) : PO X o t' := ⟨fun pins s σ H Q I q => h.run pins s σ H Q I (i σ H Q q)⟩
theorem r_onone : PO X none (tO X.K oNone) := PO_imp po_none fun σ H Q h => by
  obtain ⟨ρ, m, F, as, o, m', env, hp, hf, q⟩ := h
  cases hf
  exact q H F as .refl hp
theorem r_osome (he : PE X e1 (tE X.K f)) : PO X (some e1) (tO X.K (oSome f)) := PO_imp (po_some he) fun σ H Q h => by
  obtain ⟨ρ, m, F, as, o, m', env, hp, hf, q⟩ := h
  obtain ⟨⟨e2, m1⟩, h1, hf⟩ := bind2 hf
  obtain ⟨i, h2, hf⟩ := bind2 hf
  cases hf
  exact estep env hp h1 fun v H1 F1 as1 x1 hp1 env1 r1 => ⟨i, intOf_rep hp1 r1 h2, q H1 F1 as1 x1 hp1⟩
theorem Reps.cut {K : PySem.W.Frag} {F : Hp} {vs : List V} {ds : List D} (r : Reps K F vs ds) (lo hi : Option Int) : Reps K F (cutV vs lo hi) (cutD ds lo hi) := by
  unfold cutV cutD
  rw [r.length]
  exact (r.drop _).take _
theorem sIx_none0 (n d : Nat) : HT.sIx n d none = d := rfl
theorem cut_whole {α : Type} (xs : List α) (lo hi : Option Int) (h : HT.sIx xs.length 0 lo = 0 ∧ HT.sIx xs.length xs.length hi = xs.length) : cutD xs lo hi = xs := by
  unfold cutD
  rw [h.1, h.2]
  simp
theorem r_sl (he : PE X e (tE X.K f)) (hl : PO X el (tO X.K l)) (hh : PO X eh (tO X.K h)) : PE X (.Subscript e (.Slice el eh none p2) pos) (tE X.K (eSl f l h)) :=
  PE_imp (pe_slice (sl_list.or sl_tupA) he hl hh) fun σ H Q h => by
    obtain ⟨ρ, m, F, as, e, m', env, hp, hf, q⟩ := h
    obtain ⟨⟨e1, m1⟩, h1, hf⟩ := bind2 hf
    obtain ⟨⟨lo, m2⟩, h2, hf⟩ := bind2 hf
    obtain ⟨⟨hi, m3⟩, h3, hf⟩ := bind2 hf
    obtain ⟨d, h4, hf⟩ := bind2 hf
    obtain ⟨d', h5, hf⟩ := bind2 hf
    cases hf
    refine estep env hp h1 fun v H1 F1 as1 x1 hp1 env1 r1 => ⟨ρ, m1, F1, as1, lo, m2, env1, hp1, h2, fun H2 F2 as2 x2 hp2 => ⟨ρ, m2, F2, as2, hi, m3, env1.ext x2, hp2, h3, fun H3 F3 as3 x3 hp3 => ?_⟩⟩
    have rl := look_rep hp3 (r1.ext (x2.trans x3)) h4
    have xx := x1.trans (x2.trans x3)
    cases d with
    | lst ds =>
      cases h5
      obtain ⟨a, vs, rfl, g1, z1, rr⟩ := rl.list hp3.sub
      refine .inl ⟨a, vs, rfl, .of g1, fun p hn => ?_⟩
      have g := Grow.laid (o := .lst (cutV vs lo hi)) hp3.sub hn
      exact q _ _ _ as3 (xx.trans (hp3.ext g)) (hp3.grow g) (.d (.lst upd_same (Nat.le_trans (cutV_length _ _ _) z1) ((rr.cut lo hi).mono (g.same hp3.sub))))
    | tup ds =>
      cases h5
      obtain ⟨a, vs, rfl, f1, g1, z1, rr⟩ := rl.tup hp3.sub
      refine .inr ⟨a, vs, rfl, .of g1, fun w => ?_, fun w p hn => ?_⟩
      · refine q _ H3 F3 as3 xx hp3 ?_
        show RepE X.K F3 as3 (.ref a) (.d (.tup (cutD ds lo hi)))
        rw [cut_whole ds lo hi (by rw [← rr.length]; exact w)]
        exact .d (.tup f1 z1 rr)
      · have g := Grow.laid (o := .tup (cutV vs lo hi)) hp3.sub hn
        exact q _ _ _ as3 (xx.trans (hp3.ext g)) (hp3.grow g) (.d (.tup upd_same (Nat.le_trans (cutV_length _ _ _) z1) ((rr.cut lo hi).mono (g.same hp3.sub))))
    | _ => cases h5
end
end PL
/-! PL8: turned slices, repeated lists, ranges as lists, sets' sizes, powers, the deal. -/
namespace PLt
open PySem PyProof.Rows HT
variable {prog : Program} {w : World} {A : Around} {E : Value → Shared → Prop} {s : Shared}
theorem fm_congr {α β : Type} {f g : α → Option β} : ∀ {l : List α}, (∀ a ∈ l, f a = g a) → l.filterMap f = l.filterMap g
  | [], _ => rfl
  | a :: l, h => by
    rw [List.filterMap_cons, List.filterMap_cons, h a List.mem_cons_self, fm_congr fun b hb => h b (List.mem_cons_of_mem _ hb)]
theorem places_rev (n : Nat) : Builtin.Slice.slicePlaces ((n : Int) - 1) (-1) (-1) = n := by
  unfold Builtin.Slice.slicePlaces
  rw [if_neg (by decide)]
  by_cases h : (n : Int) - 1 > -1
  · rw [if_pos h, show (-(-1) : Int) = 1 by decide, Int.ediv_one]
    omega
  · rw [if_neg h]
    omega
theorem pick_rev (xs : Array Value) : ((List.range xs.size).filterMap fun (m : Nat) => xs[(((xs.size : Nat) : Int) - 1 + (m : Int) * (-1)).toNat]?).toArray = xs.toList.reverse.toArray := by
  congr 1
  have e : (List.range xs.size).filterMap (fun (m : Nat) => xs[(((xs.size : Nat) : Int) - 1 + (m : Int) * (-1)).toNat]?) = ((List.range xs.size).map fun k => xs.size - 1 - k).filterMap (xs[·]?) := by
    rw [List.filterMap_map]
    refine fm_congr fun m hm => ?_
    have := List.mem_range.mp hm
    have e2 : (((xs.size : Nat) : Int) - 1 + (m : Int) * (-1)).toNat = xs.size - 1 - m := by omega
    show xs[(((xs.size : Nat) : Int) - 1 + (m : Int) * (-1)).toNat]? = xs[xs.size - 1 - m]?
    rw [e2]
  rw [e, PySem.W.krv_range, List.filterMap_reverse, PySem.W.krv_all]
theorem getItem_tuple_rev {t sl : Addr} {items : Array Value} {vl vu vs : Value} {Q : Value → Shared → Prop} (ht : IsTup s.heap t items) (hs : s.heap.IsSliceOf sl vl vu vs) (pl : IsPart vl none) (pu : IsPart vu none) (ps : IsPart vs (some (-1)))
    (h : Q (.ref s.heap.objs.size) { s with heap := s.heap.push { cls := .type "tuple", data := .seq items.toList.reverse.toArray } })
    (hsz : items.size ≤ sizeLine) : wpAny (model prog w) A (getItem (.ref t) (.ref sl)) Q E s := by
  have htake : sizeOk (.seq items.toList.reverse.toArray) := by
    show items.toList.reverse.toArray.size ≤ sizeLine
    rw [List.size_toArray, List.length_reverse, Array.length_toList]
    exact hsz
  obtain ⟨os, hos, hcs, hds⟩ := id hs
  have hTs : s.TypeIs (.ref sl) "slice" := ⟨os, hos, hcs⟩
  unfold getItem
  try with_reducible refine wpAny_holding ?_
  first | refine wpAny_bind (wpAny_pure ?_) | skip
  refine wpAny_bind (wpAny_sequenceKey ht.typeIs (by decide) ?_)
  refine wpAny_bind (wpAny_callSpecial?_slot (name := Str.ofString "__getitem__") ht.typeIs PyProof.Rows.slot_tuple_getitem
    (wpAny_call_entry PyProof.Rows.slot_tuple_getitem ht.typeIs entry_tuple_getitem ?_ (args_tuple_getitem _ _)))
  show wpAny _ _ (Builtin.Tuple.tupleItemsOf (.ref t) >>= _) _ _ s
  refine wpAny_bind (tupleItemsOf_ ht ?_)
  refine wpAny_bind (wpAny_typeOf hTs ?_)
  rw [if_pos (by decide)]
  refine wpAny_bind (m := Builtin.Slice.sliceApplied _ _) ?_
  unfold Builtin.Slice.sliceApplied Builtin.Slice.sliceFields
  refine wpAny_bind (wpAny_bind (wpAny_field hos hds (x := vl) rfl (wpAny_bind (wpAny_field hos hds (x := vu) rfl (wpAny_bind (wpAny_field hos hds (x := vs) rfl (wpAny_pure ?_)))))))
  refine wpAny_bind (slicePart_ ps ?_)
  show wpAny _ _ (if ((-1 : Int) == 0) = true then _ else _) _ _ s
  rw [if_neg (by decide)]
  refine wpAny_bind (slicePart_ pl (wpAny_bind (slicePart_ pu (wpAny_bind (wpAny_pure ?_)))))
  show wpAny _ _ (pure (((items.size : Nat) : Int) - 1, (-1 : Int), Builtin.Slice.slicePlaces (((items.size : Nat) : Int) - 1) (-1) (-1))) _ _ s
  rw [places_rev]
  refine wpAny_pure ?_
  have hno : ¬ (((((items.size : Nat) : Int) - 1) == 0 && (-1 : Int) == 1 && items.size == items.size) = true) := by
    intro q
    rw [Bool.and_eq_true, Bool.and_eq_true] at q
    exact absurd q.1.2 (by decide)
  show wpAny _ _ (if ((((items.size : Nat) : Int) - 1) == 0 && (-1 : Int) == 1 && items.size == items.size) = true then _ else _) _ _ s
  rw [if_neg hno, pick_rev]
  first
    | exact wpAny_bind (m := Builtin.Tuple.tupleExact _) (wpAny_newObj_type (wpAny_pure ⟨_, rfl, wpAny_pure h⟩) htake)
    | exact wpAny_bind (m := Builtin.Tuple.tupleExact _) (wpAny_newObj_type (wpAny_bind (wpAny_pure (wpAny_pure ⟨_, rfl, wpAny_pure h⟩))) htake)
    | exact wpAny_bind (wpAny_bind (m := Builtin.Tuple.tupleExact _) (wpAny_newObj_type (wpAny_pure (wpAny_pure ⟨_, rfl, wpAny_pure h⟩)) htake))
    | exact wpAny_bind (wpAny_bind (m := Builtin.Tuple.tupleExact _) (wpAny_newObj_type (wpAny_pure ⟨_, rfl, wpAny_pure h⟩) htake))
end PLt
namespace PL
open PySem PySem.Spec L2
set_option autoImplicit false
/-- t[::-1] of a tuple -/
def tRevT (K : PySem.W.Frag) (te : TE) : TE := fun σ H Q => te σ H fun x H1 => ∃ a xs, x = .ref a ∧ SqT K H1 a xs ∧ ∀ p, H1 p = none → Q (.ref p) (upd H1 p (.tup xs.reverse))
theorem pe_revT {X : Cx} {e : Expr} {te : TE} {k : Nat} {p1 p2 p3 pos : Pos} (he : PE X e te) : PE X (.Subscript e (.Slice none none (some (.UnaryOp .USub (.Constant (.int 1) k p1) p2)) p3) pos) (tRevT X.K te) := by
  refine ⟨fun pins s σ H Q I h => ?_⟩
  refine PyProof.Rows.Subscript_ (thn (he.run pins s σ H _ I h) fun v s1 ⟨x, H1, I1, r1, q1⟩ => ?_)
  obtain ⟨a, xs, ex, hx, q⟩ := q1
  subst ex
  cases r1
  have hst : PO X (some (.UnaryOp .USub (.Constant (.int 1) k p1) p2)) (tPart (tUn (rU fun i => .int (-i)) (tC (.int 1)))) := po_some (pe_un un_neg pe_int)
  refine wpAny_Slice (thn (po_none.run pins s1 σ H1 (fun o H2 => o = none ∧ H2 = H1) I1 ⟨rfl, rfl⟩) fun vl s2 ⟨l, H2, I2, pl, el, e2⟩ => ?_)
  subst el e2
  refine thn (po_none.run pins s2 σ H2 (fun o H3 => o = none ∧ H3 = H2) I2 ⟨rfl, rfl⟩) fun vu s3 ⟨u, H3, I3, pu, eu, e3⟩ => ?_
  subst eu e3
  refine thn (hst.run pins s3 σ H3 (fun o H4 => o = some (-1) ∧ H4 = H3) I3 ⟨1, rfl, -1, rfl, rfl, rfl⟩) fun vs s4 ⟨o, H4, I4, ps, eo, e4⟩ => ?_
  subst eo e4
  have I5 : Inv X pins σ H4 { s4 with heap := s4.heap.push { cls := .type "slice", data := .fields #[vl, vu, vs] } } := I4.kept (t' := s4.toks) fun b ob q => Heap.get?_push_of_some _ q
  obtain ⟨its, r, ht, hz⟩ := I5.tuple hx
  have hlen := r.length
  show wpAny (model X.prog X.w) X.A (PyProof.Rows.subscriptTail e (.Slice none none (some (.UnaryOp .USub (.Constant (.int 1) k p1) p2)) p3) (.ref a) (.ref s4.heap.objs.size)) (EP X pins σ Q) X.xe { s4 with heap := s4.heap.push { cls := .type "slice", data := .fields #[vl, vu, vs] } }
  refine PyProof.Rows.tail_any (ops := [.ref a, .ref s4.heap.objs.size]) ht.typeIs (PyProof.Rows.slot_tuple_getitem.lookup) ?_ (by with_unfolding_all rfl)
  refine PLt.getItem_tuple_rev ht (Heap.IsSliceOf.new _ vl vu vs) pl pu ps ?_ (by rw [List.size_toArray]; omega)
  refine ⟨.ref _, _, I5.laid (t' := s4.toks) (o := .tup xs.reverse) (fun b ob q => Heap.get?_push_of_some _ q) (Nat.le_refl _) ?_, rfl, q _ (I5.hok.fresh (Nat.le_refl _))⟩
  exact ⟨by rw [List.length_reverse]; exact hz, _, r.reverse, ⟨_, Heap.get?_push_size _ rfl, rfl, _, rfl⟩⟩
theorem PE_or {X : Cx} {e : Expr} {t t' : TE} (h : PE X e t) (h' : PE X e t') : PE X e (fun σ H Q => t σ H Q ∨ t' σ H Q) := ⟨fun pins s σ H Q I q => q.elim (h.run pins s σ H Q I) (h'.run pins s σ H Q I)⟩
def opRev : D → Option D
  | .lst xs => some (.lst xs.reverse)
  | .tup xs => some (.tup xs.reverse)
  | _ => none
section
variable {X : Cx} {e : Expr} {f : Ex} {k : Nat} {p1 p2 p3 pos : Pos}
theorem r_rev (he : PE X e (tE X.K f)) : PE X (.Subscript e (.Slice none none (some (.UnaryOp .USub (.Constant (.int 1) k p1) p2)) p3) pos) (tE X.K (eUn opRev f)) :=
  PE_imp (PE_or (pe_revL he) (pe_revT he)) fun σ H Q h => by
    obtain ⟨ρ, m, F, as, e, m', env, hp, hf, q⟩ := h
    obtain ⟨⟨e1, m1⟩, h1, hf⟩ := bind2 hf
    obtain ⟨d, h2, hf⟩ := bind2 hf
    obtain ⟨d', h3, hf⟩ := bind2 hf
    cases hf
    cases d with
    | lst ds =>
      cases h3
      refine .inl (estep env hp h1 fun v H1 F1 as1 x1 hp1 env1 r1 => ?_)
      obtain ⟨a, vs, rfl, g1, z1, rr⟩ := (look_rep hp1 r1 h2).list hp1.sub
      refine ⟨a, vs, rfl, .of g1, fun p hn => ?_⟩
      have g := Grow.laid (o := .lst vs.reverse) hp1.sub hn
      exact q _ _ _ as1 (x1.trans (hp1.ext g)) (hp1.grow g) (.d (.lst upd_same (by rw [List.length_reverse]; exact z1) (rr.rev.mono (g.same hp1.sub))))
    | tup ds =>
      cases h3
      refine .inr (estep env hp h1 fun v H1 F1 as1 x1 hp1 env1 r1 => ?_)
      obtain ⟨a, vs, rfl, f1, g1, z1, rr⟩ := (look_rep hp1 r1 h2).tup hp1.sub
      refine ⟨a, vs, rfl, .of g1, fun p hn => ?_⟩
      have g := Grow.laid (o := .tup vs.reverse) hp1.sub hn
      exact q _ _ _ as1 (x1.trans (hp1.ext g)) (hp1.grow g) (.d (.tup upd_same (by rw [List.length_reverse]; exact z1) (rr.rev.mono (g.same hp1.sub))))
    | _ => cases h3
end
/-! ### products: ints, or a list so often -/
noncomputable def opMulA : D → D → Option D
  | .int i, .int j => if okP ((-(2 ^ 64) < i ∧ i < 2 ^ 64) ∨ (-(2 ^ 64) < j ∧ j < 2 ^ 64)) = true then some (.int (i * j)) else none
  | .lst xs, .int k => if okP (-(2 ^ 63) ≤ k ∧ k < 2 ^ 63 ∧ xs.length * k.toNat ≤ big) = true then some (.lst (List.replicate k.toNat xs).flatten) else none
  | _, _ => none
def rMulA : R2 := fun x y H Q => (rI CMul fun i j => .int (i * j)) x y H Q ∨ rRep x y H Q
theorem op_mulA {X : Cx} : OpR X (binaryOp .Mult) rMulA := op_mul.or op_rep
theorem Reps.rep {K : PySem.W.Frag} {F : Hp} {vs : List V} {ds : List D} (r : Reps K F vs ds) : ∀ k : Nat, Reps K F (List.replicate k vs).flatten (List.replicate k ds).flatten
  | 0 => .nil
  | k + 1 => by
    rw [List.replicate_succ, List.replicate_succ, List.flatten_cons, List.flatten_cons]
    exact r.append (Reps.rep r k)
theorem rep_len {α : Type} (xs : List α) : ∀ k : Nat, (List.replicate k xs).flatten.length = xs.length * k
  | 0 => by simp
  | k + 1 => by rw [List.replicate_succ, List.flatten_cons, List.length_append, rep_len xs k, Nat.mul_succ, Nat.add_comm]
theorem d_mulA {K : PySem.W.Frag} : D2Ok K rMulA opMulA := by
  intro x y H F dx dy d Q s rx ry hd q
  unfold opMulA at hd
  split at hd
  · split at hd
    · rename_i c
      have c := of_okP c
      cases hd
      exact .inl ⟨_, _, rx.int, ry.int, c, q _ H F (.refl s) .int⟩
    · cases hd
  · rename_i xs k
    split at hd
    · rename_i z
      have z := of_okP z
      cases hd
      obtain ⟨a, vs, rfl, h1, z1, r1⟩ := rx.list s
      refine .inr ⟨a, _, vs, rfl, ry.int, h1, z.1, z.2.1, by rw [r1.length]; exact big_le z.2.2, fun p hn => ?_⟩
      have g := Grow.laid (o := .lst (List.replicate k.toNat vs).flatten) s hn
      exact q _ _ _ g (.lst upd_same (by rw [rep_len, r1.length]; exact big_le z.2.2) ((r1.rep _).mono (g.same s)))
    · cases hd
  · cases hd
noncomputable abbrev opPow := opI fun i j => if okP ((0 ≤ j ∧ j ≤ 1000) ∧ i.natAbs < 2 ^ 64) = true then some (.int (i ^ j.toNat)) else none
theorem d_pow {K : PySem.W.Frag} : D2Ok K (rI CPow fun i j => .int (i ^ j.toNat)) opPow := d_int fun i j d h => by
  split at h
  · rename_i c
    have c := of_okP c
    cases h
    exact ⟨⟨c.1.1, by omega, c.2⟩, fun _ => .int⟩
  · cases h
/-! ### list(range(..)), tuple(range(..)) -/
noncomputable def eListRg (f : Ex) : Ex := fun ρ m => (f ρ m).bind fun p => (intOf p.2 p.1).bind fun n => if okP (-(big : Int) ≤ n ∧ n ≤ big) = true then some (.d (.lst (rangeE 0 n.toNat)), p.2) else none
noncomputable def eTupRg (f : Ex) : Ex := fun ρ m => (f ρ m).bind fun p => (intOf p.2 p.1).bind fun n => if okP (-(big : Int) ≤ n ∧ n ≤ big) = true then some (.d (.tup (rangeE 0 n.toNat)), p.2) else none
theorem reps_rg {K : PySem.W.Frag} {F : Hp} (n : Int) : Reps K F (rgV 0 n) (rangeE 0 n.toNat) := by
  unfold rgV rangeE
  rw [show (n - 0).toNat = n.toNat by omega]
  have : ∀ l : List Nat, Reps K F (l.map fun (i : Nat) => V.int (0 + (i : Int))) (l.map fun (i : Nat) => D.int (0 + (i : Int))) := fun l => by
    induction l with
    | nil => exact .nil
    | cons a l ih => exact .cons .int ih
  exact this _
theorem rg_fits {n : Int} (h : -(big : Int) ≤ n ∧ n ≤ (big : Int)) : RgOk 0 n := by
  have hb : (big : Int) = 1000000 := rfl
  exact ⟨by omega, by omega, by omega, by omega, by omega⟩
theorem rg_len {n : Int} (h : -(big : Int) ≤ n ∧ n ≤ (big : Int)) : (rgV 0 n).length ≤ sizeLine := by
  have hb : (big : Int) = 1000000 := rfl
  rw [rgV_length, sizeLine_eq]
  omega
section
variable {X : Cx} {a : Expr} {f : Ex} {p p2 pos pos2 : Pos}
theorem r_listRg (hc : X.calm = true) (hg : Gl X "list") (hm : X.mg "list" = none) (hgr : Gl X "range") (hmr : X.mg "range" = none) (ha : PE X a (tE X.K f)) (na : starEach [a] X.env = (false, eval a X.env) :: starEach [] X.env := by rfl)
    (na2 : starEach [.Call (.Name "range" p2) [a] [] pos2] X.env = (false, eval (.Call (.Name "range" p2) [a] [] pos2) X.env) :: starEach [] X.env := by rfl) : PE X (.Call (.Name "list" p) [.Call (.Name "range" p2) [a] [] pos2] [] pos) (tE X.K (eListRg f)) :=
  PE_imp (pe_listRg hc hg hm (prg_1 hgr hmr ha na) na2) fun σ H Q h => by
    obtain ⟨ρ, m, F, as, e, m', env, hp, hf, q⟩ := h
    obtain ⟨⟨e1, m1⟩, h1, hf⟩ := bind2 hf
    obtain ⟨n, h2, hf⟩ := bind2 hf
    split at hf
    · rename_i z
      have z := of_okP z
      cases hf
      refine estep env hp h1 fun v H1 F1 as1 x1 hp1 env1 r1 => ⟨n, intOf_rep hp1 r1 h2, rg_fits z, fun l hn => ?_⟩
      have g := Grow.laid (o := .lst (rgV 0 n)) hp1.sub hn
      exact q _ _ _ as1 (x1.trans (hp1.ext g)) (hp1.grow g) (.d (.lst upd_same (rg_len z) (reps_rg n)))
    · cases hf
theorem r_tupRg (hc : X.calm = true) (hg : Gl X "tuple") (hm : X.mg "tuple" = none) (hgr : Gl X "range") (hmr : X.mg "range" = none) (ha : PE X a (tE X.K f)) (na : starEach [a] X.env = (false, eval a X.env) :: starEach [] X.env := by rfl)
    (na2 : starEach [.Call (.Name "range" p2) [a] [] pos2] X.env = (false, eval (.Call (.Name "range" p2) [a] [] pos2) X.env) :: starEach [] X.env := by rfl) : PE X (.Call (.Name "tuple" p) [.Call (.Name "range" p2) [a] [] pos2] [] pos) (tE X.K (eTupRg f)) :=
  PE_imp (pe_tupRg hc hg hm (prg_1 hgr hmr ha na) na2) fun σ H Q h => by
    obtain ⟨ρ, m, F, as, e, m', env, hp, hf, q⟩ := h
    obtain ⟨⟨e1, m1⟩, h1, hf⟩ := bind2 hf
    obtain ⟨n, h2, hf⟩ := bind2 hf
    split at hf
    · rename_i z
      have z := of_okP z
      cases hf
      refine estep env hp h1 fun v H1 F1 as1 x1 hp1 env1 r1 => ⟨n, intOf_rep hp1 r1 h2, rg_fits z, fun l hn => ?_⟩
      have g := Grow.laid (o := .tup (rgV 0 n)) hp1.sub hn
      exact q _ _ _ as1 (x1.trans (hp1.ext g)) (hp1.grow g) (.d (.tup upd_same (rg_len z) (reps_rg n)))
    · cases hf
end
/-! ### len(set(xs)), xs a list of ints -/
def distinct (ns : List Int) : List Int := ns.foldl PyProof.Rows.step_dedup []
theorem firstMet_eq (ns : List Int) : PyProof.Rows.firstMet (fun i => ns.getD i 0) ns.length = distinct ns := by
  unfold PyProof.Rows.firstMet distinct
  congr 1
  refine List.ext_getElem? fun i => ?_
  rw [List.getElem?_map]
  by_cases h : i < ns.length
  · rw [List.getElem?_range h]
    simp [h]
  · rw [List.getElem?_eq_none (by simpa using h), List.getElem?_eq_none (by omega)]
    rfl
def opLenSet : D → Option D
  | .lst xs => (intsOf xs).bind fun ns => if ns.length ≤ 4000 then some (.int (distinct ns).length) else none
  | _ => none
def tLenSetI (K : PySem.W.Frag) (ta : TE) : TE := fun σ H Q => ta σ H fun x H1 => ∃ l, ∃ ns : List Int, x = .ref l ∧ SqL K H1 l (ns.map V.int) ∧ ns.length ≤ 4000 ∧ Q (.int (distinct ns).length) H1
section
variable {X : Cx} {a : Expr} {ta : TE} {f : Ex} {p p2 q pos : Pos}
theorem pe_lenSetI (hc : X.calm = true) (hg : Gl X "len") (hm : X.mg "len" = none) (hg2 : Gl X "set") (hm2 : X.mg "set" = none) (ha : PE X a ta)
    (na : starEach [a] X.env = (false, eval a X.env) :: starEach [] X.env := by rfl) : PE X (.Call (.Name "len" p) [.Call (.Name "set" p2) [a] [] q] [] pos) (tLenSetI X.K ta) := by
  refine ⟨fun pins s σ H Q I h => ?_⟩
  refine PyProof.Rows.Call_ (ld_blt I hg hm PySem.boot_len ?_)
  refine PyProof.Rows.callWith_builtin1 (PyProof.Rows.args_cons ?_ rfl) rfl rfl
  refine PyProof.Rows.Call_ (ld_blt I hg2 hm2 PyProof.Rows.boot_set ?_)
  refine PyProof.Rows.callWith_type1 (PyProof.Rows.args_cons (thn (ha.run pins s σ H _ I h) fun v s1 ⟨x, H1, I1, r1, q1⟩ => PyProof.Rows.args_nil ?_) na) na rfl
  obtain ⟨l, ns, rfl, hq, hz, q1⟩ := q1
  cases r1
  obtain ⟨its, r, pl, _⟩ := I1.list hq
  have hi : PyProof.Rows.IntsAre its.toArray.toList ns := Vals.ints r
  have hl : its.toArray.size = ns.length := by
    have := r.length
    rw [List.length_map] at this
    rw [List.size_toArray]
    exact this.symm
  refine PySem.call_set_list (I1.ok.hd hc) pl.isList hi (by rw [hl]; show ns.length + 1 < 4096; omega) fun h' tk hS hk => ?_
  rw [hl, firstMet_eq] at hS
  refine PyProof.Rows.args_nil ?_
  obtain ⟨o, es, ep, t, ho, hex, hd, _, _, _, hf, hn⟩ := hS
  have I2 : Inv X pins σ H1 { s1 with heap := h', toks := tk } := I1.kept fun b o e => hk b o (Heap.lt_size e) e
  have hlen : (distinct ns).length ≤ 4000 := by
    have := PyProof.Rows.firstMet_length_le (fun i => ns.getD i 0) ns.length
    rw [firstMet_eq] at this
    omega
  refine call_len_set ho hex hd hf (by rw [hn] <;> omega) ⟨.int (distinct ns).length, H1, I2.tok _, ⟨_, by rw [hn]⟩, q1⟩
theorem r_lenSet (hc : X.calm = true) (hg : Gl X "len") (hm : X.mg "len" = none) (hg2 : Gl X "set") (hm2 : X.mg "set" = none) (ha : PE X a (tE X.K f))
    (na : starEach [a] X.env = (false, eval a X.env) :: starEach [] X.env := by rfl) : PE X (.Call (.Name "len" p) [.Call (.Name "set" p2) [a] [] q] [] pos) (tE X.K (eUn opLenSet f)) :=
  PE_imp (pe_lenSetI hc hg hm hg2 hm2 ha na) fun σ H Q h => by
    obtain ⟨ρ, m, F, as, e, m', env, hp, hf, q⟩ := h
    obtain ⟨⟨e1, m1⟩, h1, hf⟩ := bind2 hf
    obtain ⟨d, h2, hf⟩ := bind2 hf
    obtain ⟨d', h3, hf⟩ := bind2 hf
    cases hf
    refine estep env hp h1 fun v H1 F1 as1 x1 hp1 env1 r1 => ?_
    cases d with
    | lst xs =>
      obtain ⟨ns, h4, h3⟩ := bind2 h3
      split at h3
      · rename_i z
        cases h3
        obtain ⟨l, rfl, hq⟩ := list_ints hp1.sub (look_rep hp1 r1 h2) h4
        exact ⟨l, ns, rfl, hq, z, q _ H1 F1 as1 x1 hp1 (.d .int)⟩
      · cases h3
    | _ => cases h3
end
/-! ### the deal: its places -/
def dealAt (row : List Int) (c : Nat) (t : Int) : Int → Option E
  | 0 => some (.d (.lst (row.map .int)))
  | 1 => some (.own c)
  | 2 => some (.d (.int t))
  | _ => none
def gIx : G2 := fun x y m => match x with
  | .deal row c t => (intOf m y).bind fun i => (dealAt row c t i).bind fun e => some (e, m)
  | _ => g2 opIx x y m
theorem d_ixA {K : PySem.W.Frag} : R2Ok K (rIx K) gIx := by
  intro x y H F as m ex ey e m' Q hp rx ry hf q
  cases ex with
  | deal row c t =>
    obtain ⟨i, h1, hf⟩ := bind2 hf
    obtain ⟨e', h2, hf⟩ := bind2 hf
    cases hf
    have ei := intOf_rep hp ry h1
    subst ei
    cases rx with
    | @deal a r ca _ _ _ f1 f2 z f3 =>
      have hH := hp.sub.lst f1
      unfold dealAt at h2
      split at h2
      · cases h2
        exact .inl ⟨a, _, 0, .ref r, rfl, rfl, .of hH, rfl, q _ H F as .refl hp (.d (.lst f2 (by rw [List.length_map]; exact z) (Reps.of_ints row)))⟩
      · cases h2
        exact .inl ⟨a, _, 1, .ref ca, rfl, rfl, .of hH, rfl, q _ H F as .refl hp (.own f3)⟩
      · cases h2
        exact .inl ⟨a, _, 2, .int t, rfl, rfl, .of hH, rfl, q _ H F as .refl hp (.d .int)⟩
      · cases h2
  | d d => exact d_ix.r2 x y H F as m _ ey e m' Q hp rx ry hf q
  | own c => exact d_ix.r2 x y H F as m _ ey e m' Q hp rx ry hf q
/-- [row, [c], total], the deal as it is made: row written no more, [c] a cell -/
def eDeal (fr fc ft : Ex) : Ex := fun ρ m => (fr ρ m).bind fun p => (fc ρ p.2).bind fun q => (ft ρ q.2).bind fun r => (frzE r.2 p.1).bind fun d => (intOf d.2 r.1).bind fun t => match d.1, q.1 with
  | .lst xs, .own c => (intsOf xs).bind fun row => some (.deal row c t, d.2)
  | _, _ => none
section
variable {X : Cx} {a b c : Expr} {fr fc ft : Ex} {pos : Pos}
theorem r_deal (ha : PE X a (tE X.K fr)) (hb : PE X b (tE X.K fc)) (hc : PE X c (tE X.K ft)) (h1 : starEach [a, b, c] X.env = (false, eval a X.env) :: starEach [b, c] X.env := by rfl) (h2 : starEach [b, c] X.env = (false, eval b X.env) :: starEach [c] X.env := by rfl)
    (h3 : starEach [c] X.env = (false, eval c X.env) :: starEach [] X.env := by rfl) : PE X (.List [a, b, c] pos) (tE X.K (eDeal fr fc ft)) :=
  PE_imp (pe_lst (pa_cons ha (pa_cons hb (pa_cons hc pa_nil h3) h2) h1)) fun σ H Q h => by
    obtain ⟨ρ, m, F, as, e, m', env, hp, hf, q⟩ := h
    obtain ⟨⟨e1, m1⟩, h1, hf⟩ := bind2 hf
    obtain ⟨⟨e2, m2⟩, h2, hf⟩ := bind2 hf
    obtain ⟨⟨e3, m3⟩, h3, hf⟩ := bind2 hf
    obtain ⟨⟨d, m4⟩, h4, hf⟩ := bind2 hf
    obtain ⟨t, h5, hf⟩ := bind2 hf
    cases d with
    | lst xs =>
      cases e2 with
      | own k =>
        obtain ⟨row, h6, hf⟩ := bind2 hf
        cases hf
        refine estep env hp h1 fun v1 H1 F1 as1 x1 hp1 env1 r1 => estep env1 hp1 h2 fun v2 H2 F2 as2 x2 hp2 env2 r2 => estep env2 hp2 h3 fun v3 H3 F3 as3 x3 hp3 env3 r3 => ?_
        obtain ⟨F4, x4, hp4, r4⟩ := frzE_ok hp3 (r1.ext (x2.trans x3)) h4
        have ev := intOf_rep hp4 (r3.ext x4) h5
        subst ev
        cases r2 with
        | @own ca _ r2 =>
          have rc := pre_get (x3.trans x4).2.1 r2
          rw [intsOf_eq h6] at r4
          cases r4 with
          | @lst r vs _ f1 z1 rr =>
            have evs := rr.ints
            subst evs
            refine ⟨by show 3 ≤ sizeLine; rw [sizeLine_eq]; decide, fun p hn => ?_⟩
            have g := Grow.laid (o := .lst [.ref r, .ref ca, .int t]) hp4.sub hn
            refine q _ _ _ as3 ((x1.trans (x2.trans (x3.trans x4))).trans (hp4.ext g)) (hp4.grow g) (.deal upd_same (g.same hp4.sub _ _ f1) (by rw [List.length_map] at z1; exact z1) rc)
      | _ => cases hf
    | _ => cases hf
end
end PL
/-! PL9: dicts. -/
namespace PL
open PySem PySem.Spec L2
set_option autoImplicit false

section
variable {κ : Type} [DecidableEq κ]
def valD (kvs : List (κ × D)) (k : κ) : Option D := (kvs.find? fun kv => decide (kv.1 = k)).map (·.2)
def putD (kvs : List (κ × D)) (k : κ) (v : D) : List (κ × D) := if (kvs.any fun kv => decide (kv.1 = k)) = true then kvs.map (fun kv => if kv.1 = k then (kv.1, v) else kv) else kvs ++ [(k, v)]
def dropD (kvs : List (κ × D)) (k : κ) : List (κ × D) := kvs.filter fun kv => decide (kv.1 ≠ k)
end
def KP {κ : Type} (K : PySem.W.Frag) (F : Hp) : List (κ × V) → List (κ × D) → Prop := Paired fun p q => p.1 = q.1 ∧ Rep K F p.2 q.2
section
variable {K : PySem.W.Frag} {F : Hp}
theorem KReps.kp : ∀ {vs : List (Key × V)} {ds : List (Key × D)}, KReps K F vs ds → KP K F vs ds
  | _, _, .nil => .nil
  | _, _, .cons a b => .cons ⟨rfl, a⟩ (KReps.kp b)
theorem KP.k : ∀ {vs : List (Key × V)} {ds : List (Key × D)}, KP K F vs ds → KReps K F vs ds
  | _, _, .nil => .nil
  | (k, v) :: _, (k', d) :: _, .cons ⟨h, a⟩ b => by
    have e : k = k' := h
    subst e
    exact .cons a (KP.k b)
theorem TReps.kp : ∀ {vs : List (List Key × V)} {ds : List (List Key × D)}, TReps K F vs ds → KP K F vs ds
  | _, _, .nil => .nil
  | _, _, .cons a b => .cons ⟨rfl, a⟩ (TReps.kp b)
theorem KP.t : ∀ {vs : List (List Key × V)} {ds : List (List Key × D)}, KP K F vs ds → TReps K F vs ds
  | _, _, .nil => .nil
  | (k, v) :: _, (k', d) :: _, .cons ⟨h, a⟩ b => by
    have e : k = k' := h
    subst e
    exact .cons a (KP.t b)
variable {κ : Type} [DecidableEq κ]
theorem KP.len : ∀ {vs : List (κ × V)} {ds : List (κ × D)}, KP K F vs ds → vs.length = ds.length
  | _, _, .nil => rfl
  | _, _, .cons _ b => congrArg (· + 1) (KP.len b)
theorem KP.any (k : κ) : ∀ {vs : List (κ × V)} {ds : List (κ × D)}, KP K F vs ds → (vs.any fun kv => decide (kv.1 = k)) = (ds.any fun kv => decide (kv.1 = k))
  | _, _, .nil => rfl
  | _, _, .cons ⟨h, _⟩ b => by rw [List.any_cons, List.any_cons, KP.any k b, h]
theorem KP.val (k : κ) : ∀ {vs : List (κ × V)} {ds : List (κ × D)}, KP K F vs ds → (valV vs k = none ∧ valD ds k = none) ∨ ∃ v d, valV vs k = some v ∧ valD ds k = some d ∧ Rep K F v d
  | _, _, .nil => .inl ⟨rfl, rfl⟩
  | p :: vs, q :: ds, .cons ⟨h, a⟩ b => by
    by_cases e : p.1 = k
    · refine .inr ⟨p.2, q.2, valV_pos e, ?_, a⟩
      simp [valD, List.find?_cons, ← h, e]
    · rw [valV_neg e]
      have e2 : valD (q :: ds) k = valD ds k := by
        simp only [valD, List.find?_cons]
        rw [show decide (q.1 = k) = false from decide_eq_false (fun z => e (h.trans z))]
      rw [e2]
      exact KP.val k b
theorem KP.app {vs vs' : List (κ × V)} {ds ds' : List (κ × D)} : KP K F vs ds → KP K F vs' ds' → KP K F (vs ++ vs') (ds ++ ds')
  | .nil, h => h
  | .cons a b, h => .cons a (KP.app b h)
theorem KP.mapput (k : κ) {v : V} {d : D} (r : Rep K F v d) : ∀ {vs : List (κ × V)} {ds : List (κ × D)}, KP K F vs ds → KP K F (vs.map fun kv => if kv.1 = k then (kv.1, v) else kv) (ds.map fun kv => if kv.1 = k then (kv.1, d) else kv)
  | _, _, .nil => .nil
  | p :: _, q :: _, .cons ⟨h, a⟩ b => by
    refine .cons ?_ (KP.mapput k r b)
    dsimp only
    by_cases e : p.1 = k
    · rw [if_pos e, if_pos (h.symm.trans e)]
      exact ⟨h, r⟩
    · rw [if_neg e, if_neg (fun z => e (h.trans z))]
      exact ⟨h, a⟩
theorem KP.put (k : κ) {v : V} {d : D} (r : Rep K F v d) {vs : List (κ × V)} {ds : List (κ × D)} (h : KP K F vs ds) : KP K F (putK vs k v) (putD ds k d) := by
  unfold putK putD
  rw [h.any k]
  split
  · exact h.mapput k r
  · exact h.app (.cons ⟨rfl, r⟩ .nil)
theorem KP.drop (k : κ) : ∀ {vs : List (κ × V)} {ds : List (κ × D)}, KP K F vs ds → KP K F (dropK vs k) (dropD ds k)
  | _, _, .nil => .nil
  | p :: vs, q :: ds, .cons ⟨h, a⟩ b => by
    have ih := KP.drop k b
    unfold dropK dropD at ih ⊢
    rw [List.filter_cons, List.filter_cons, h]
    split
    · exact .cons ⟨h, a⟩ ih
    · exact ih
end
def keyOf : D → Option Key
  | .int i => some (.inl i)
  | .str x => some (.inr x)
  | _ => none
def keysOf : List D → Option (List Key)
  | [] => some []
  | d :: r => (keyOf d).bind fun k => (keysOf r).map (k :: ·)
def keyT : D → Option (List Key)
  | .tup ds => keysOf ds
  | _ => none
section
variable {K : PySem.W.Frag} {F H : Hp}
theorem keyOf_rep {v : V} {d : D} {k : Key} (r : Rep K F v d) (h : keyOf d = some k) : v = kV k := by
  cases r <;> first | (cases h; rfl) | cases h
theorem keyOf_repL {v : V} {d : D} {k : Key} (r : RepL K H F v d) (h : keyOf d = some k) : v = kV k := by
  cases r with
  | of r => exact keyOf_rep r h
  | _ => cases h
theorem keysOf_rep : ∀ {vs : List V} {ds : List D} {ks : List Key}, Reps K F vs ds → keysOf ds = some ks → vs = ks.map kV
  | _, _, _, .nil, h => by cases h; rfl
  | _, _, _, .cons a b, h => by
    obtain ⟨k, h1, h⟩ := bind2 h
    obtain ⟨ks, h2, rfl⟩ := Option.map_eq_some_iff.mp h
    rw [keyOf_rep a h1, keysOf_rep b h2]
    rfl
theorem keyT_rep {v : V} {d : D} {k : List Key} (s : FSub F H) (r : RepL K H F v d) (h : keyT d = some k) : ∃ b, v = .ref b ∧ H b = some (.tup (k.map kV)) := by
  cases d with
  | tup ds =>
    obtain ⟨a, vs, rfl, f1, h1, z1, rr⟩ := r.tup s
    rw [keysOf_rep rr h] at h1
    exact ⟨a, rfl, h1⟩
  | _ => cases h
end
/-- what a dict gives for a key: none where the thing is no dict, or no key -/
def dget (d i : D) : Option (Option D) := match d with
  | .dic kvs => (keyOf i).map fun k => valD kvs k
  | .dicT kvs => (keyT i).map fun k => valD kvs k
  | _ => none
theorem dget_rep {K : PySem.W.Frag} {F H : Hp} {v w : V} {d i : D} {o : Option D} (s : FSub F H) (rv : RepL K H F v d) (rw' : RepL K H F w i) (h : dget d i = some o) :
    ∃ a ov, v = .ref a ∧ DGet H a w ov ∧ ((ov = none ∧ o = none) ∨ ∃ x y, ov = some x ∧ o = some y ∧ Rep K F x y) := by
  cases d with
  | dic kvs =>
    obtain ⟨k, h1, rfl⟩ := Option.map_eq_some_iff.mp h
    obtain ⟨a, vs, rfl, h2, h3⟩ := rv.dict s
    exact ⟨a, _, rfl, .inl ⟨vs, k, h2, keyOf_repL rw' h1, rfl⟩, h3.kp.val k⟩
  | dicT kvs =>
    obtain ⟨k, h1, rfl⟩ := Option.map_eq_some_iff.mp h
    obtain ⟨a, vs, rfl, h2, h3⟩ := rv.dictT s
    obtain ⟨b, rfl, h4⟩ := keyT_rep s rw' h1
    exact ⟨a, _, rfl, .inr ⟨vs, k, b, h2, rfl, h4, rfl⟩, h3.kp.val k⟩
  | _ => cases h
def eGetD (fo fi : Ex) : Ex := fun ρ m => (fo ρ m).bind fun p => (fi ρ p.2).bind fun q => (look q.2 p.1).bind fun d => (look q.2 q.1).bind fun i => (dget d i).bind fun o => o.bind fun x => some (.d x, q.2)
def eInD (fi fo : Ex) : Ex := fun ρ m => (fi ρ m).bind fun q => (fo ρ q.2).bind fun p => (look p.2 p.1).bind fun d => (look p.2 q.1).bind fun i => (dget d i).bind fun o => some (.d (.bl o.isSome), p.2)
def eNotInD (fi fo : Ex) : Ex := fun ρ m => (fi ρ m).bind fun q => (fo ρ q.2).bind fun p => (look p.2 p.1).bind fun d => (look p.2 q.1).bind fun i => (dget d i).bind fun o => some (.d (.bl !o.isSome), p.2)
section
variable {X : Cx} {o i : Expr} {fo fi : Ex} {pos : Pos}
theorem r_getD (hu : X.A.units + 1 < cLine) (ho : PE X o (tE X.K fo)) (hi : PE X i (tE X.K fi)) (hs : NoSl i) : PE X (.Subscript o i pos) (tE X.K (eGetD fo fi)) :=
  PE_imp (pe_dget hu ho hi hs) fun σ H Q h => by
    obtain ⟨ρ, m, F, as, e, m', env, hp, hf, q⟩ := h
    obtain ⟨⟨e1, m1⟩, h1, hf⟩ := bind2 hf
    obtain ⟨⟨e2, m2⟩, h2, hf⟩ := bind2 hf
    obtain ⟨d, h3, hf⟩ := bind2 hf
    obtain ⟨k, h4, hf⟩ := bind2 hf
    obtain ⟨ov, h5, hf⟩ := bind2 hf
    obtain ⟨x, h6, hf⟩ := bind2 hf
    cases hf
    refine estep env hp h1 fun v1 H1 F1 as1 x1 hp1 env1 r1 => estep env1 hp1 h2 fun v2 H2 F2 as2 x2 hp2 env2 r2 => ?_
    obtain ⟨a, ow, rfl, g, c⟩ := dget_rep hp2.sub (look_rep hp2 (r1.ext x2) h3) (look_rep hp2 r2 h4) h5
    rcases c with ⟨_, c⟩ | ⟨y, z, c1, c2, c3⟩
    · rw [c] at h6; cases h6
    · rw [c2] at h6
      cases h6
      rw [c1] at g
      exact ⟨a, y, rfl, g, q y H2 F2 as2 (x1.trans x2) hp2 (.d c3)⟩
theorem inD_read : ∀ σ H Q, tE X.K (eInD fi fo) σ H Q → tDIn (tE X.K fi) (tE X.K fo) σ H Q := by
  intro σ H Q h
  obtain ⟨ρ, m, F, as, e, m', env, hp, hf, q⟩ := h
  obtain ⟨⟨e1, m1⟩, h1, hf⟩ := bind2 hf
  obtain ⟨⟨e2, m2⟩, h2, hf⟩ := bind2 hf
  obtain ⟨d, h3, hf⟩ := bind2 hf
  obtain ⟨k, h4, hf⟩ := bind2 hf
  obtain ⟨ov, h5, hf⟩ := bind2 hf
  cases hf
  refine estep env hp h1 fun v1 H1 F1 as1 x1 hp1 env1 r1 => estep env1 hp1 h2 fun v2 H2 F2 as2 x2 hp2 env2 r2 => ?_
  obtain ⟨a, ow, rfl, g, c⟩ := dget_rep hp2.sub (look_rep hp2 r2 h3) (look_rep hp2 (r1.ext x2) h4) h5
  refine ⟨a, ow, rfl, g, ?_⟩
  have e : ow.isSome = ov.isSome := by
    rcases c with ⟨c1, c2⟩ | ⟨y, z, c1, c2, c3⟩ <;> rw [c1, c2] <;> rfl
  rw [e]
  exact q _ H2 F2 as2 (x1.trans x2) hp2 (.d .bl)
theorem notInD_read : ∀ σ H Q, tE X.K (eNotInD fi fo) σ H Q → tDNotIn (tE X.K fi) (tE X.K fo) σ H Q := by
  intro σ H Q h
  obtain ⟨ρ, m, F, as, e, m', env, hp, hf, q⟩ := h
  obtain ⟨⟨e1, m1⟩, h1, hf⟩ := bind2 hf
  obtain ⟨⟨e2, m2⟩, h2, hf⟩ := bind2 hf
  obtain ⟨d, h3, hf⟩ := bind2 hf
  obtain ⟨k, h4, hf⟩ := bind2 hf
  obtain ⟨ov, h5, hf⟩ := bind2 hf
  cases hf
  refine estep env hp h1 fun v1 H1 F1 as1 x1 hp1 env1 r1 => estep env1 hp1 h2 fun v2 H2 F2 as2 x2 hp2 env2 r2 => ?_
  obtain ⟨a, ow, rfl, g, c⟩ := dget_rep hp2.sub (look_rep hp2 r2 h3) (look_rep hp2 (r1.ext x2) h4) h5
  refine ⟨a, ow, rfl, g, ?_⟩
  have e : ow.isSome = ov.isSome := by
    rcases c with ⟨c1, c2⟩ | ⟨y, z, c1, c2, c3⟩ <;> rw [c1, c2] <;> rfl
  rw [e]
  exact q _ H2 F2 as2 (x1.trans x2) hp2 (.d .bl)
theorem r_inD (hu : X.A.units + 1 < cLine) (hi : PE X i (tE X.K fi)) (ho : PE X o (tE X.K fo)) (hb : behindInMarks .In o = false := by rfl) : PE X (.Compare i [.In] [o] pos) (tE X.K (eInD fi fo)) := PE_imp (pe_cmp (pc_din hu hi ho) hb) inD_read
theorem r_notInD (hu : X.A.units + 1 < cLine) (hi : PE X i (tE X.K fi)) (ho : PE X o (tE X.K fo)) (hb : behindInMarks .NotIn o = false := by rfl) : PE X (.Compare i [.NotIn] [o] pos) (tE X.K (eNotInD fi fo)) := PE_imp (pe_cmp (pc_dnotin hu hi ho) hb) notInD_read
theorem r_inDT (hu : X.A.units + 1 < cLine) (hi : PE X i (tE X.K fi)) (ho : PE X o (tE X.K fo)) (hb : behindInMarks .In o = false := by rfl) : PT X (.Compare i [.In] [o] pos) (tT X.K (tOf (eInD fi fo))) := PT_imp (pt_cmp (pc_din hu hi ho) hb) (test_read inD_read)
theorem r_notInDT (hu : X.A.units + 1 < cLine) (hi : PE X i (tE X.K fi)) (ho : PE X o (tE X.K fo)) (hb : behindInMarks .NotIn o = false := by rfl) : PT X (.Compare i [.NotIn] [o] pos) (tT X.K (tOf (eNotInD fi fo))) := PT_imp (pt_cmp (pc_dnotin hu hi ho) hb) (test_read notInD_read)
end
/-! ### dicts that are made and written -/
def eDicO : Ex := fun _ m => some (.own m.length, m ++ [.dic []])
def eDicTO : Ex := fun _ m => some (.own m.length, m ++ [.dicT []])
def eDic0 : Ex := fun _ m => some (.d (.dic []), m)
section
variable {X : Cx} {pos : Pos}
theorem r_dicO : PE X (.Dict [] [] pos) (tE X.K eDicO) := PE_imp pe_dnewK fun σ H Q h p hn => by
  obtain ⟨ρ, m, F, as, e, m', env, hp, hf, q⟩ := h
  cases hf
  refine q _ _ F ⟨as.c ++ [p], as.g⟩ ⟨Same.refl _, pre_snoc _ _, rfl⟩ (hp.cellNew hn ⟨hp.sub.free hn, [], upd_same, .nil⟩) (.own ?_)
  rw [← hp.len]
  simp
theorem r_dicTO : PE X (.Dict [] [] pos) (tE X.K eDicTO) := PE_imp pe_dnewT fun σ H Q h p hn => by
  obtain ⟨ρ, m, F, as, e, m', env, hp, hf, q⟩ := h
  cases hf
  refine q _ _ F ⟨as.c ++ [p], as.g⟩ ⟨Same.refl _, pre_snoc _ _, rfl⟩ (hp.cellNew hn ⟨hp.sub.free hn, [], upd_same, .nil⟩) (.own ?_)
  rw [← hp.len]
  simp
theorem r_dic0 : PE X (.Dict [] [] pos) (tE X.K eDic0) := PE_imp pe_dnewK fun σ H Q h p hn => by
  obtain ⟨ρ, m, F, as, e, m', env, hp, hf, q⟩ := h
  cases hf
  have g := Grow.laid (o := .dK []) hp.sub hn
  exact q _ _ _ as (hp.ext g) (hp.grow g) (.d (.dic upd_same .nil))
end
/-- d[k] = v -/
def sPutD (fo fi fv : Ex) : Sx := fun ρ m => (fv ρ m).bind fun p => (fo ρ p.2).bind fun q => (fi ρ q.2).bind fun r => match q.1 with
  | .own c => (look r.2 r.1).bind fun i => (frzE r.2 p.1).bind fun d => match d.2[c]? with
    | some (.dic kvs) => (keyOf i).bind fun k => if kvs.length < big then some (.nx, ρ, d.2.set c (.dic (putD kvs k d.1))) else none
    | some (.dicT kvs) => (keyT i).bind fun k => if kvs.length < big then some (.nx, ρ, d.2.set c (.dicT (putD kvs k d.1))) else none
    | _ => none
  | _ => none
/-- del d[k] -/
def sDelD (fo fi : Ex) : Sx := fun ρ m => (fo ρ m).bind fun q => (fi ρ q.2).bind fun r => match q.1 with
  | .own c => (look r.2 r.1).bind fun i => match r.2[c]? with
    | some (.dic kvs) => (keyOf i).bind fun k => if (valD kvs k).isSome = true then some (.nx, ρ, r.2.set c (.dic (dropD kvs k))) else none
    | _ => none
  | _ => none
section
variable {X : Cx} {o i e : Expr} {fo fi fv : Ex} {pos pos' : Pos}
theorem r_putD (hu : X.A.units + 1 < cLine) (ho : PE X o (tE X.K fo)) (hi : PE X i (tE X.K fi)) (hv : PE X e (tE X.K fv)) (hs : swapsWith e (some (.Subscript o i pos')) pos.line X.env = pure false) : PS X (.Assign [.Subscript o i pos'] e pos) (tS X.K (sPutD fo fi fv)) :=
  PS_imp (ps_dput hu ho hi hv hs) fun D σ H h => by
    obtain ⟨ρ, m, F, as, fl, ρ', m', env, hp, hf, q⟩ := h
    obtain ⟨⟨e1, m1⟩, g1, hf⟩ := bind2 hf
    obtain ⟨⟨e2, m2⟩, g2, hf⟩ := bind2 hf
    obtain ⟨⟨e3, m3⟩, g3, hf⟩ := bind2 hf
    cases e2 with
    | own c =>
      obtain ⟨k, g4, hf⟩ := bind2 hf
      obtain ⟨⟨d, m4⟩, g5, hf⟩ := bind2 hf
      refine estep env hp g1 fun v1 H1 F1 as1 x1 hp1 env1 r1 => estep env1 hp1 g2 fun v2 H2 F2 as2 x2 hp2 env2 r2 => estep env2 hp2 g3 fun v3 H3 F3 as3 x3 hp3 env3 r3 => ?_
      obtain ⟨F4, x4, hp4, r4⟩ := frzE_ok hp3 (r1.ext (x2.trans x3)) g5
      have r3' := look_rep hp3 r3 g4
      cases r2 with
      | @own a _ r2 =>
        have ra := pre_get x3.2.1 r2
        have xx := x1.trans (x2.trans (x3.trans x4))
        cases w : m4[c]? with
        | none => simp only [w] at hf; cases hf
        | some ob =>
          have y := hp4.cell c a ob ra w
          cases ob with
          | dic kvs =>
            simp only [w] at hf
            obtain ⟨ky, g6, hf⟩ := bind2 hf
            split at hf
            · rename_i z
              cases hf
              obtain ⟨f1, vs, g7, rv⟩ := y
              refine ⟨a, _, rfl, .inl ⟨vs, ky, g7, keyOf_repL r3' g6, by rw [rv.length]; exact big_lt z, rfl⟩, ?_⟩
              exact q σ _ F4 as3 xx (env3.ext x4) (hp4.write ra f1 ⟨f1, _, upd_same, (rv.kp.put ky r4).k⟩)
            · cases hf
          | dicT kvs =>
            simp only [w] at hf
            obtain ⟨ky, g6, hf⟩ := bind2 hf
            split at hf
            · rename_i z
              cases hf
              obtain ⟨f1, vs, g7, rv⟩ := y
              obtain ⟨b, rfl, g8⟩ := keyT_rep hp3.sub r3' g6
              refine ⟨a, _, rfl, .inr ⟨vs, ky, b, g7, rfl, g8, by rw [rv.kp.len]; exact big_lt z, rfl⟩, ?_⟩
              exact q σ _ F4 as3 xx (env3.ext x4) (hp4.write ra f1 ⟨f1, _, upd_same, (rv.kp.put ky r4).t⟩)
            · cases hf
          | lst _ => simp only [w] at hf; cases hf
          | frz _ => simp only [w] at hf; cases hf
    | _ => cases hf
theorem r_delD (ho : PE X o (tE X.K fo)) (hi : PE X i (tE X.K fi)) : PS X (.Delete [.Subscript o i pos'] pos) (tS X.K (sDelD fo fi)) :=
  PS_imp (ps_ddel ho hi) fun D σ H h => by
    obtain ⟨ρ, m, F, as, fl, ρ', m', env, hp, hf, q⟩ := h
    obtain ⟨⟨e2, m2⟩, g2, hf⟩ := bind2 hf
    obtain ⟨⟨e3, m3⟩, g3, hf⟩ := bind2 hf
    cases e2 with
    | own c =>
      obtain ⟨k, g4, hf⟩ := bind2 hf
      refine estep env hp g2 fun v2 H2 F2 as2 x2 hp2 env2 r2 => estep env2 hp2 g3 fun v3 H3 F3 as3 x3 hp3 env3 r3 => ?_
      have r3' := look_rep hp3 r3 g4
      cases r2 with
      | @own a _ r2 =>
        have ra := pre_get x3.2.1 r2
        cases w : m3[c]? with
        | none => simp only [w] at hf; cases hf
        | some ob =>
          have y := hp3.cell c a ob ra w
          cases ob with
          | dic kvs =>
            simp only [w] at hf
            obtain ⟨ky, g6, hf⟩ := bind2 hf
            split at hf
            · rename_i z
              cases hf
              obtain ⟨f1, vs, g7, rv⟩ := y
              have ek := keyOf_repL r3' g6
              refine ⟨a, vs, ky, rfl, g7, ek, ?_, ?_⟩
              · rcases rv.kp.val ky with ⟨_, c2⟩ | ⟨_, _, c1, _⟩
                · rw [c2] at z; cases z
                · rw [c1]; rfl
              · exact q σ _ F3 as3 (x2.trans x3) env3 (hp3.write ra f1 ⟨f1, _, upd_same, (rv.kp.drop ky).k⟩)
            · cases hf
          | dicT _ => simp only [w] at hf; cases hf
          | lst _ => simp only [w] at hf; cases hf
          | frz _ => simp only [w] at hf; cases hf
    | _ => cases hf
end
end PL
/-! PL10: dict comprehensions; the end of a law. -/
namespace PL
open PySem PySem.Spec L2
set_option autoImplicit false

def dcLoop (g : Tg) (tt : Tx) (tk tv : Ex) (ρ : Rho) : List D → List (Key × D) → Store → Option (List (Key × D) × Store)
  | [], acc, m => some (acc, m)
  | x :: xs, acc, m => (g (.d x) ρ).bind fun ρ1 => (tt ρ1 m).bind fun b => if b.1 = true then (tk ρ1 b.2).bind fun y => (tv ρ1 y.2).bind fun z => (look z.2 y.1).bind fun ky => (keyOf ky).bind fun k => (frzE z.2 z.1).bind fun d => if acc.length < big then dcLoop g tt tk tv ρ xs (putD acc k d.1) d.2 else none
    else dcLoop g tt tk tv ρ xs acc b.2
def eDc (it : Ix) (vs : List Nat) (g : Tg) (tt : Tx) (tk tv : Ex) : Ex := fun ρ m => (it ρ m).bind fun p => (dcLoop g tt tk tv (wipeE ρ vs) p.1 [] p.2).bind fun r => some (.d (.dic r.1), r.2)
def eDcO (it : Ix) (vs : List Nat) (g : Tg) (tt : Tx) (tk tv : Ex) : Ex := fun ρ m => (it ρ m).bind fun p => (dcLoop g tt tk tv (wipeE ρ vs) p.1 [] p.2).bind fun r => some (.own r.2.length, r.2 ++ [.dic r.1])
section
variable {K : PySem.W.Frag} {F H : Hp} {c : List Addr} {g : List (Addr × HO)} {m : Store} {L : Addr} {ho : HO}
/-- the made thing is written -/
theorem prot_write (hp : HeapOk K H F ⟨c, (L, ho) :: g⟩ m) (ho' : HO) : HeapOk K (upd H L ho') F ⟨c, (L, ho') :: g⟩ m := by
  obtain ⟨p1, p2, p3⟩ := hp.prot (L, ho) List.mem_cons_self
  refine ⟨fun a u q => ?_, hp.len, hp.nd, fun a q => ?_, fun c' a u q1 q2 => ?_, fun p hq => ?_, hp.pnd⟩
  · rw [upd_ne (fun z => by rw [z, p2] at q; cases q)]; exact hp.sub a u q
  · rw [upd_ne (fun z => p3 (by rw [← z]; exact q))]; exact hp.there a q
  · have na : a ≠ L := fun z => p3 (by rw [← z]; exact List.mem_of_getElem? q1)
    have z := hp.cell c' a u q1 q2
    cases u with
    | lst ds => obtain ⟨y1, z, vs, y2, y3⟩ := z; exact ⟨y1, z, vs, by rw [upd_ne na]; exact y2, y3⟩
    | dic ds => obtain ⟨y1, vs, y2, y3⟩ := z; exact ⟨y1, vs, by rw [upd_ne na]; exact y2, y3⟩
    | dicT ds => obtain ⟨y1, vs, y2, y3⟩ := z; exact ⟨y1, vs, by rw [upd_ne na]; exact y2, y3⟩
    | frz d => exact z
  · rcases List.mem_cons.mp hq with rfl | hq
    · exact ⟨upd_same, p2, p3⟩
    · obtain ⟨q1, q2, q3⟩ := hp.prot p (List.mem_cons_of_mem _ hq)
      have np : p.1 ≠ L := fun z => (List.nodup_cons.mp hp.pnd).1 (List.mem_map.mpr ⟨p, hq, z⟩)
      exact ⟨by rw [upd_ne np]; exact q1, q2, q3⟩
/-- a new thing is protected -/
theorem prot_new {as : Cs} (hp : HeapOk K H F as m) (hD : H L = none) : HeapOk K (upd H L ho) F ⟨as.c, (L, ho) :: as.g⟩ m := by
  have ne : ∀ a, H a ≠ none → a ≠ L := fun a q z => q (by rw [z]; exact hD)
  have nc : L ∉ as.c := fun z => hp.there L z hD
  refine ⟨fun a u q => by rw [upd_ne (ne a (hp.sub.there q))]; exact hp.sub a u q, hp.len, hp.nd, fun a q => by rw [upd_ne (ne a (hp.there a q))]; exact hp.there a q, fun c a u q1 q2 => ?_, fun p hq => ?_, ?_⟩
  · have na := ne a (hp.there a (List.mem_of_getElem? q1))
    have z := hp.cell c a u q1 q2
    cases u with
    | lst ds => obtain ⟨y1, z, vs, y2, y3⟩ := z; exact ⟨y1, z, vs, by rw [upd_ne na]; exact y2, y3⟩
    | dic ds => obtain ⟨y1, vs, y2, y3⟩ := z; exact ⟨y1, vs, by rw [upd_ne na]; exact y2, y3⟩
    | dicT ds => obtain ⟨y1, vs, y2, y3⟩ := z; exact ⟨y1, vs, by rw [upd_ne na]; exact y2, y3⟩
    | frz d => exact z
  · rcases List.mem_cons.mp hq with rfl | hq
    · exact ⟨upd_same, hp.sub.free hD, nc⟩
    · obtain ⟨p1, p2, p3⟩ := hp.prot p hq
      exact ⟨by rw [upd_ne (ne p.1 (by rw [p1]; simp))]; exact p1, p2, p3⟩
  · show (L :: as.g.map (·.1)).Nodup
    refine List.nodup_cons.mpr ⟨fun z => ?_, hp.pnd⟩
    obtain ⟨p, hq, e⟩ := List.mem_map.mp z
    have e1 := (hp.prot p hq).1
    rw [e, hD] at e1
    cases e1
/-- the made thing becomes data -/
theorem prot_frz (hp : HeapOk K H F ⟨c, (L, ho) :: g⟩ m) : Same F (upd F L ho) ∧ HeapOk K H (upd F L ho) ⟨c, g⟩ m := by
  obtain ⟨p1, p2, p3⟩ := hp.prot (L, ho) List.mem_cons_self
  have sm : Same F (upd F L ho) := Same.updF p2
  refine ⟨sm, ⟨fun b u q => ?_, hp.len, hp.nd, hp.there, fun c' b u q1 q2 => ?_, fun p hq => ?_, (List.nodup_cons.mp hp.pnd).2⟩⟩
  · by_cases e : b = L
    · subst e
      rw [upd_same] at q
      cases q
      exact .inl p1
    · rw [upd_ne e] at q
      exact hp.sub b u q
  · have nb : b ≠ L := fun z => p3 (by rw [← z]; exact List.mem_of_getElem? q1)
    have y := hp.cell c' b u q1 q2
    cases u with
    | lst ds => obtain ⟨y1, z, vs, y2, y3⟩ := y; exact ⟨by rw [upd_ne nb]; exact y1, z, vs, y2, y3.mono sm⟩
    | dic ds => obtain ⟨y1, vs, y2, y3⟩ := y; exact ⟨by rw [upd_ne nb]; exact y1, vs, y2, y3.mono sm⟩
    | dicT ds => obtain ⟨y1, vs, y2, y3⟩ := y; exact ⟨by rw [upd_ne nb]; exact y1, vs, y2, y3.mono sm⟩
    | frz d' => exact Rep.mono sm y
  · obtain ⟨q1, q2, q3⟩ := hp.prot p (List.mem_cons_of_mem _ hq)
    exact ⟨q1, by rw [upd_ne (fun z => (List.nodup_cons.mp hp.pnd).1 (List.mem_map.mpr ⟨p, hq, z⟩))]; exact q2, q3⟩
/-- .. a cell -/
theorem prot_cell {o : O} (hp : HeapOk K H F ⟨c, (L, ho) :: g⟩ m) (y : CellOk K H F L o) : HeapOk K H F ⟨c ++ [L], g⟩ (m ++ [o]) := by
  obtain ⟨p1, p2, p3⟩ := hp.prot (L, ho) List.mem_cons_self
  have hl : c.length = m.length := hp.len
  refine ⟨hp.sub, by show (c ++ [L]).length = _; rw [List.length_append, List.length_append, hl]; rfl, ?_, fun a q => ?_, fun c' b u q1 q2 => ?_, fun p hq => ?_, (List.nodup_cons.mp hp.pnd).2⟩
  · show (c ++ [L]).Nodup
    rw [List.nodup_append]
    refine ⟨hp.nd, by simp, fun a ha b hb => ?_⟩
    have e : b = L := by simpa using hb
    rw [e]
    exact fun z => p3 (by rw [← z]; exact ha)
  · rcases List.mem_append.mp q with q | q
    · exact hp.there a q
    · have e : a = L := by simpa using q
      rw [e, p1]; simp
  · have q1 : (c ++ [L])[c']? = some b := q1
    by_cases hc : c' < c.length
    · rw [List.getElem?_append_left hc] at q1
      rw [List.getElem?_append_left (by rw [← hl]; exact hc)] at q2
      exact hp.cell c' b u q1 q2
    · rw [List.getElem?_append_right (by omega)] at q1
      rw [List.getElem?_append_right (by rw [← hl]; omega)] at q2
      rw [← hl] at q2
      cases k : c' - c.length with
      | zero =>
        rw [k] at q1 q2
        simp at q1 q2
        subst q1 q2
        exact y
      | succ j => rw [k] at q1; simp at q1
  · obtain ⟨q1, q2, q3⟩ := hp.prot p (List.mem_cons_of_mem _ hq)
    refine ⟨q1, q2, fun z => ?_⟩
    rcases List.mem_append.mp z with z | z
    · exact q3 z
    · exact (List.nodup_cons.mp hp.pnd).1 (List.mem_map.mpr ⟨p, hq, by simpa using z⟩)
end
theorem dc_main {K : PySem.W.Frag} {J : It} {g : TG} {tg : Tg} {tt : Tx} {tk tv : Ex} {vs : List Nat} {σ : L2.St} {H F : Hp} {as : Cs} {m m' : Store} {ρ : Rho} {xs : List D} {ds : List (Key × D)} {L : Addr} {Q : VK}
    (hg : TgOk K g tg vs) (env : EnvOk K F as σ ρ) (hp : HeapOk K H F as m) (wk : Walks K J F xs) (hf : dcLoop tg tt tk tv (wipeE ρ vs) xs [] m = some (ds, m')) (hD : H L = none)
    (q : ∀ (H' F' : Hp) (c' : List Addr) (vs' : List (Key × V)), Same F F' → as.c <+: c' → KReps K F' vs' ds → HeapOk K H' F' ⟨c', (L, .dK vs') :: as.g⟩ m' → Q (.ref L) H') :
    ∃ W : Nat → Nat → Hp → Prop, (∃ n, W 0 n (upd H L (.dK []))) ∧ ∀ i n H, W i n H →
  (J.stop i H ∧ Q (.ref L) H) ∨ (J.go i H ∧ ∃ Nx : Hp → Prop, (∀ H', Nx H' → ∃ n', n' < n ∧ W (i + 1) n' H') ∧ ∀ x H', J.yld i H x H' → g x (wipe σ vs) H' fun σ2 H2 => wipe σ2 vs = wipe σ vs ∧ tT K tt σ2 H2 fun b H3 =>
    if b = true then tE K tk σ2 H3 fun y H4 => tE K tv σ2 H4 fun z H5 => ∃ kvs k, y = kV k ∧ H5 L = some (.dK kvs) ∧ kvs.length < sizeLine ∧ Nx (upd H5 L (.dK (putK kvs k z))) else Nx H3) := by
  refine ⟨fun i n H1 => n = xs.length - i ∧ i ≤ xs.length ∧ ∃ (F1 : Hp) (c1 : List Addr) (m1 : Store) (acc : List (Key × V)) (d1 : List (Key × D)), Same F F1 ∧ as.c <+: c1 ∧ KReps K F1 acc d1 ∧ HeapOk K H1 F1 ⟨c1, (L, .dK acc) :: as.g⟩ m1 ∧ dcLoop tg tt tk tv (wipeE ρ vs) (xs.drop i) d1 m1 = some (ds, m'),
    ⟨_, rfl, Nat.zero_le _, F, as.c, m, [], [], Same.refl F, List.prefix_refl _, .nil, prot_new hp hD, hf⟩, ?_⟩
  rintro i n H1 ⟨rfl, hi, F1, c1, m1, acc, d1, s1, pc, ra, hp1, hl⟩
  obtain ⟨w1, w2⟩ := wk F1 _ m1 H1 s1 hp1 i
  by_cases hlt : i < xs.length
  · obtain ⟨hgo, hy⟩ := w2 xs[i] (List.getElem?_eq_getElem hlt)
    refine .inr ⟨hgo, fun H' => ∃ (F1 : Hp) (c1 : List Addr) (m1 : Store) (acc : List (Key × V)) (d1 : List (Key × D)), Same F F1 ∧ as.c <+: c1 ∧ KReps K F1 acc d1 ∧ HeapOk K H' F1 ⟨c1, (L, .dK acc) :: as.g⟩ m1 ∧ dcLoop tg tt tk tv (wipeE ρ vs) (xs.drop (i + 1)) d1 m1 = some (ds, m'),
      fun H' h => ⟨_, by omega, rfl, hlt, h⟩, fun x H' hx => ?_⟩
    obtain ⟨F2, gr, rx⟩ := hy x H' hx
    have hp2 := hp1.grow gr
    have s2 := gr.same hp1.sub
    have env2 : EnvOk K F2 ⟨c1, (L, .dK acc) :: as.g⟩ (wipe σ vs) (wipeE ρ vs) := by
      refine ⟨(env.wipe vs).len, fun j e h => ?_⟩
      obtain ⟨v, a, b⟩ := (env.wipe vs).get j e h
      refine ⟨v, a, ?_⟩
      have sm := s1.trans s2
      cases b with
      | d r => exact .d (r.mono sm)
      | own r => exact .own (pre_get pc r)
      | deal d1 d2 z d3 => exact .deal (sm _ _ d1) (sm _ _ d2) z (pre_get pc d3)
    rw [List.drop_eq_getElem_cons hlt] at hl
    obtain ⟨ρ1, h1, hl⟩ := bind2 hl
    obtain ⟨⟨b, m2⟩, h2, hl⟩ := bind2 hl
    refine hg.run env2 hp2 (.d rx) h1 fun σ' env3 l3 s3 => ⟨wipe_eq l3 s3, ?_⟩
    refine tstep env3 hp2 h2 fun H3 F3 as3 x3 hp3 env4 => ?_
    obtain ⟨c3, g3⟩ := as3
    obtain ⟨x31, x32, x33⟩ := x3
    have eg : g3 = (L, .dK acc) :: as.g := x33
    subst eg
    cases b with
    | false => exact ⟨F3, c3, m2, acc, d1, (s1.trans s2).trans x31, pc.trans x32, (ra.mono s2).mono x31, hp3, hl⟩
    | true =>
      obtain ⟨⟨y, m3⟩, h3, hl⟩ := bind2 hl
      obtain ⟨⟨z, m4⟩, h4, hl⟩ := bind2 hl
      obtain ⟨ky, h5, hl⟩ := bind2 hl
      obtain ⟨k, h6, hl⟩ := bind2 hl
      obtain ⟨⟨d, m5⟩, h7, hl⟩ := bind2 hl
      split at hl
      · rename_i hz
        refine estep env4 hp3 h3 fun yv H4 F4 as4 x4 hp4 env5 ry => estep env5 hp4 h4 fun zv H5 F5 as5 x5 hp5 env6 rz => ?_
        have rk := look_rep hp5 (ry.ext x5) h5
        obtain ⟨c5, g5⟩ := as5
        obtain ⟨x51, x52, x53⟩ := x4.trans x5
        have eg : g5 = (L, .dK acc) :: as.g := x53
        subst eg
        obtain ⟨F6, x6, hp6, rd⟩ := frzE_ok hp5 rz h7
        have sF : Same F1 F6 := ((s2.trans x31).trans x51).trans x6.1
        have pr := hp6.prot (L, .dK acc) List.mem_cons_self
        refine ⟨acc, k, keyOf_repL rk h6, pr.1, by rw [ra.length]; exact big_lt hz, F6, c5, m5, putK acc k zv, putD d1 k d, s1.trans sF, (pc.trans x32).trans x52, ((ra.mono sF).kp.put k rd).k, prot_write hp6 _, hl⟩
      · cases hl
  · have e : i = xs.length := by omega
    subst e
    rw [List.drop_length] at hl
    cases hl
    exact .inl ⟨w1 (Nat.le_refl _), q H1 F1 c1 acc s1 pc ra hp1⟩
section
variable {X : Cx} {scope : Scope} {own : List (Str × Nat)} {it : Ix} {g : TG} {tgm : Tg} {tt : Tx} {tk tv : Ex}
theorem dc_read (hg : TgOk X.K g tgm (own.map (·.2))) : ∀ σ H Q, tE X.K (eDc it (own.map (·.2)) tgm tt tk tv) σ H Q → tDc (tI X.K it) g (tT X.K tt) (tE X.K tk) (tE X.K tv) (own.map (·.2)) σ H Q := by
  intro σ H Q h
  obtain ⟨ρ, m, F, as, e, m', env, hp, hf, q⟩ := h
  obtain ⟨⟨xs, m1⟩, h1, hf⟩ := bind2 hf
  obtain ⟨⟨ds, m2⟩, h2, hf⟩ := bind2 hf
  cases hf
  refine ⟨ρ, m, F, as, xs, m1, env, hp, h1, fun J H1 F1 as1 x1 hp1 wk L hL => ?_⟩
  refine dc_main hg (env.ext x1) hp1 wk h2 hL fun H2 F2 c2 vs2 s2 p2 r2 hp2 => ?_
  obtain ⟨s3, hp3⟩ := prot_frz hp2
  exact q _ _ _ ⟨c2, as1.g⟩ (x1.trans ⟨s2.trans s3, p2, rfl⟩) hp3 (.d (.dic upd_same (r2.mono s3)))
theorem dcO_read (hg : TgOk X.K g tgm (own.map (·.2))) : ∀ σ H Q, tE X.K (eDcO it (own.map (·.2)) tgm tt tk tv) σ H Q → tDc (tI X.K it) g (tT X.K tt) (tE X.K tk) (tE X.K tv) (own.map (·.2)) σ H Q := by
  intro σ H Q h
  obtain ⟨ρ, m, F, as, e, m', env, hp, hf, q⟩ := h
  obtain ⟨⟨xs, m1⟩, h1, hf⟩ := bind2 hf
  obtain ⟨⟨ds, m2⟩, h2, hf⟩ := bind2 hf
  cases hf
  refine ⟨ρ, m, F, as, xs, m1, env, hp, h1, fun J H1 F1 as1 x1 hp1 wk L hL => ?_⟩
  refine dc_main hg (env.ext x1) hp1 wk h2 hL fun H2 F2 c2 vs2 s2 p2 r2 hp2 => ?_
  obtain ⟨p1, p3, p4⟩ := hp2.prot (L, .dK vs2) List.mem_cons_self
  refine q _ _ _ ⟨c2 ++ [L], as1.g⟩ (x1.trans ⟨s2, p2.trans (pre_snoc _ _), rfl⟩) (prot_cell hp2 ⟨p3, vs2, p1, r2⟩) (.own ?_)
  have e := hp2.len
  show (c2 ++ [L])[m2.length]? = some L
  rw [← e]
  simp
end
/-! ### the end of a law -/
def spLaw : PySem.W.Frag → Sp := fun K vs H Q _ => ∃ (a : Addr) (ns : List Int), vs = [.ref a] ∧ SqL K H a (ns.map V.int) ∧ ns.length ≤ 63 ∧ ∀ H', Q (.bl true) H'
theorem law_imp {K : PySem.W.Frag} {f : Fx} (h : ∀ ns : List Int, ns.length ≤ 63 → ∃ m', f [.d (.scr ns)] [] = some (.d (.bl true), m')) : ∀ vs H Q E, spLaw K vs H Q E → spD K 1 f vs H Q E := by
  rintro vs H Q E ⟨a, ns, rfl, hS, hl, q⟩
  obtain ⟨m', hf⟩ := h ns hl
  refine ⟨rfl, [.d (.scr ns)], [], H, ⟨[], []⟩, _, m', .cons (.d (.scr hS (by rw [sizeLine_eq]; omega))) .nil, ⟨fun a o h => .inl h, rfl, List.nodup_nil, fun a h => (nomatch h), fun c a o h => by simp at h, fun p h => (nomatch h), List.nodup_nil⟩, hf, fun v H' F' as' x hp r => ?_⟩
  cases r with
  | d r => cases r; exact q H'
end PL
/-! PL11: the rules in the forms that a printed derivation takes. -/
namespace PL
open PySem PySem.Spec L2
set_option autoImplicit false
@[irreducible] def wN : Nat := 1000000
theorem wN_big : wN = 1000000 := by unfold wN; rfl
section
variable {X : Cx} {x : Str} {pos pos' : Pos} {e tg iter : Expr} {f : Ex} {it : Ix} {body : List Stmt} {fb : Sx}
theorem r_glob {v : V} {d : D} (hg : Gl X x) (hm : ∃ u, X.mg x = some u ∧ RelV v u) (r : ∀ F : Hp, Rep X.K F v d) (hd : (x == ("__debug__" : Str)) = false := by decide) : PE X (.Name x pos) (tE X.K (eC d)) := by
  obtain ⟨u, h1, h2⟩ := hm
  exact r_const (pe_glob hg h1 h2 hd) r
theorem r_set {i : Nat} (hN : X.N.Nodup) (hi : X.N[i]? = some x) (hx : Loc X.env.scope x) (he : PE X e (tE X.K f)) (hs : swapsWith e (some (.Name x pos')) pos.line X.env = pure false) (hf : X.fn x = true ∨ X.env.scope.names.lookup x = some .local) :
    PS X (.Assign [.Name x pos'] e pos) (tS X.K (sSet i f)) := PS_imp (ps_set hN hi hx he hs hf) (asg_read (tgOk_name (vs := [i]) (List.mem_singleton.mpr rfl)))
theorem r_asgT {es : List Expr} {k : Nat} {is : List Nat} {tpos : Pos} (hc : X.calm = true) (he : PE X e (tE X.K f)) (hg : PGs X es (gNames is)) (hn : (assignEach es X.env).length = is.length := by rfl) (hst : (assignEach es X.env).findIdx? (·.1) = none := by rfl)
    (hs : swapsWithSole [.Tuple es k tpos] e pos.line X.env = pure false := by rfl) (hw : swappedStores [.Tuple es k tpos] e X.env = pure none := by rfl)
    (h1 : (assignEach [.Tuple es k tpos] X.env).map (·.2) = [assign (.Tuple es k tpos) X.env] := by rfl) : PS X (.Assign [.Tuple es k tpos] e pos) (tS X.K (sAsg f (tgTup is))) :=
  PS_imp (ps_asg he (pg_seqs hc hg hn hst) hs hw h1) (asg_read (tgOk_tup rfl fun i hi => hi))
theorem r_for {gt : TG} {tgm : Tg} {vs : List Nat} (hp : PassesOwn (model X.prog X.w) X.A X.env X.xe) (hc : X.calm = true) (hi : PI X tg iter (tI X.K it)) (hg : PG X tg gt) (ht : TgOk X.K gt tgm vs) (hb : PSs X body (tS X.K fb)) (hs : ∀ x, foldedSetIterable iter X.env x = pure x := by intro _; rfl) :
    PS X (.For tg iter body [] pos) (tS X.K (sFor it tgm fb)) := PS_imp (ps_for hp hc hi hg hb hs) (for_read ht)
theorem r_while {c : Expr} {ft : Tx} {N : Nat} (hp : PassesOwn (model X.prog X.w) X.A X.env X.xe) (hc : PT X c (tT X.K ft)) (hb : PSs X body (tS X.K fb)) : PS X (.While c body [] pos) (tS X.K (sWhile N ft fb)) := PS_imp (ps_while hp hc hb) while_read
/-- a target of names -/
theorem g_tup {es : List Expr} {k : Nat} {is : List Nat} {tpos : Pos} (hc : X.calm = true) (h : PGs X es (gNames is)) (hn : (assignEach es X.env).length = is.length := by rfl) (hst : (assignEach es X.env).findIdx? (·.1) = none := by rfl) : PG X (.Tuple es k tpos) (gSeqs X.K is.length (gNames is)) := pg_seqs hc h hn hst
theorem PTs_imp {X : Cx} {ifs : List Expr} {t t' : TT} (h : PTs X ifs t) (i : ∀ σ H Q, t' σ H Q → t σ H Q) : PTs X ifs t' := ⟨fun pins s σ H Q I q => h.run pins s σ H Q I (i σ H Q q)⟩
theorem r_ifs0 : PTs X [] (tT X.K tTrue) := PTs_imp pts_nil fun σ H Q h => by
  obtain ⟨ρ, m, F, as, b, m', env, hp, hf, q⟩ := h
  cases hf
  exact q H F as .refl hp
theorem r_ifs1 {c : Expr} {ft : Tx} (h : PT X c (tT X.K ft)) : PTs X [c] (tT X.K ft) := pts_one h
section
variable {elt kx vx : Expr} {ifs : List Expr} {scope : Scope} {own : List (Str × Nat)} {gt : TG} {tgm : Tg} {tt : Tx} {te tk tv : Ex} {spos py : Pos} {y : Str}
theorem r_lc (hc : X.calm = true) (hN : X.N.Nodup) (hi : PI X tg iter (tI X.K it)) (ok : BlkOk X.N X.env.scope scope own) (hgt : TgOk X.K gt tgm (own.map (·.2)))
    (hg : ∀ (s : Shared) (H : Hp) (C : Addr) (cl : List (Str × Addr)) (fp : List Addr), PG (X.blk s H scope (PySem.compEnvC scope cl C X.env) fp) tg gt) (ht : ∀ (s : Shared) (H : Hp) (C : Addr) (cl : List (Str × Addr)) (fp : List Addr), PTs (X.blk s H scope (PySem.compEnvC scope cl C X.env) fp) ifs (tT X.K tt))
    (he : ∀ (s : Shared) (H : Hp) (C : Addr) (cl : List (Str × Addr)) (fp : List Addr), PE (X.blk s H scope (PySem.compEnvC scope cl C X.env) fp) elt (tE X.K te)) (hs : ∀ x, foldedSetIterable iter X.env x = pure x := by intro _; rfl) :
    PE X (.ListComp elt [⟨tg, iter, ifs, 0⟩] scope pos) (tE X.K (eLc it (own.map (·.2)) tgm tt te)) := PE_imp (pe_lc hc hN hi ok hg ht he hs) (lc_read hgt)
theorem r_lcO (hc : X.calm = true) (hN : X.N.Nodup) (hi : PI X tg iter (tI X.K it)) (ok : BlkOk X.N X.env.scope scope own) (hgt : TgOk X.K gt tgm (own.map (·.2)))
    (hg : ∀ (s : Shared) (H : Hp) (C : Addr) (cl : List (Str × Addr)) (fp : List Addr), PG (X.blk s H scope (PySem.compEnvC scope cl C X.env) fp) tg gt) (ht : ∀ (s : Shared) (H : Hp) (C : Addr) (cl : List (Str × Addr)) (fp : List Addr), PTs (X.blk s H scope (PySem.compEnvC scope cl C X.env) fp) ifs (tT X.K tt))
    (he : ∀ (s : Shared) (H : Hp) (C : Addr) (cl : List (Str × Addr)) (fp : List Addr), PE (X.blk s H scope (PySem.compEnvC scope cl C X.env) fp) elt (tE X.K te)) (hs : ∀ x, foldedSetIterable iter X.env x = pure x := by intro _; rfl) :
    PE X (.ListComp elt [⟨tg, iter, ifs, 0⟩] scope pos) (tE X.K (eLcO it (own.map (·.2)) tgm tt te)) := PE_imp (pe_lc hc hN hi ok hg ht he hs) (lcO_read hgt)
theorem r_setLc {i : Nat} (hc : X.calm = true) (hN : X.N.Nodup) (hy : X.N[i]? = some y) (hyl : X.env.scope.names.lookup y = some .local)
    (hsw : swapsWith (.ListComp elt [⟨tg, iter, ifs, 0⟩] scope pos) (some (.Name y py)) spos.line X.env = pure true) (hi : PI X tg iter (tI X.K it)) (ok : BlkOk X.N X.env.scope scope own) (hgt : TgOk X.K gt tgm (own.map (·.2)))
    (hg : ∀ (s : Shared) (H : Hp) (C : Addr) (cl : List (Str × Addr)) (fp : List Addr), PG (X.blk s H scope (PySem.compEnvC scope cl C X.env) fp) tg gt) (ht : ∀ (s : Shared) (H : Hp) (C : Addr) (cl : List (Str × Addr)) (fp : List Addr), PTs (X.blk s H scope (PySem.compEnvC scope cl C X.env) fp) ifs (tT X.K tt))
    (he : ∀ (s : Shared) (H : Hp) (C : Addr) (cl : List (Str × Addr)) (fp : List Addr), PE (X.blk s H scope (PySem.compEnvC scope cl C X.env) fp) elt (tE X.K te)) (hs : ∀ x, foldedSetIterable iter X.env x = pure x := by intro _; rfl) :
    PS X (.Assign [.Name y py] (.ListComp elt [⟨tg, iter, ifs, 0⟩] scope pos) spos) (tS X.K (sSet i (eLc it (own.map (·.2)) tgm tt te))) :=
  PS_imp (PS_imp (ps_setLc hc hN hy hyl hsw hi ok hg ht he hs) fun D σ H h => lc_read hgt σ H _ h) (asg_read (tgOk_name (vs := [i]) (List.mem_singleton.mpr rfl)))
theorem r_setLcO {i : Nat} (hc : X.calm = true) (hN : X.N.Nodup) (hy : X.N[i]? = some y) (hyl : X.env.scope.names.lookup y = some .local)
    (hsw : swapsWith (.ListComp elt [⟨tg, iter, ifs, 0⟩] scope pos) (some (.Name y py)) spos.line X.env = pure true) (hi : PI X tg iter (tI X.K it)) (ok : BlkOk X.N X.env.scope scope own) (hgt : TgOk X.K gt tgm (own.map (·.2)))
    (hg : ∀ (s : Shared) (H : Hp) (C : Addr) (cl : List (Str × Addr)) (fp : List Addr), PG (X.blk s H scope (PySem.compEnvC scope cl C X.env) fp) tg gt) (ht : ∀ (s : Shared) (H : Hp) (C : Addr) (cl : List (Str × Addr)) (fp : List Addr), PTs (X.blk s H scope (PySem.compEnvC scope cl C X.env) fp) ifs (tT X.K tt))
    (he : ∀ (s : Shared) (H : Hp) (C : Addr) (cl : List (Str × Addr)) (fp : List Addr), PE (X.blk s H scope (PySem.compEnvC scope cl C X.env) fp) elt (tE X.K te)) (hs : ∀ x, foldedSetIterable iter X.env x = pure x := by intro _; rfl) :
    PS X (.Assign [.Name y py] (.ListComp elt [⟨tg, iter, ifs, 0⟩] scope pos) spos) (tS X.K (sSet i (eLcO it (own.map (·.2)) tgm tt te))) :=
  PS_imp (PS_imp (ps_setLc hc hN hy hyl hsw hi ok hg ht he hs) fun D σ H h => lcO_read hgt σ H _ h) (asg_read (tgOk_name (vs := [i]) (List.mem_singleton.mpr rfl)))
theorem r_dc (hc : X.calm = true) (hN : X.N.Nodup) (hi : PI X tg iter (tI X.K it)) (ok : BlkOk X.N X.env.scope scope own) (hgt : TgOk X.K gt tgm (own.map (·.2)))
    (hg : ∀ (s : Shared) (H : Hp) (C : Addr) (cl : List (Str × Addr)) (fp : List Addr), PG (X.blk s H scope (PySem.compEnvC scope cl C X.env) fp) tg gt) (ht : ∀ (s : Shared) (H : Hp) (C : Addr) (cl : List (Str × Addr)) (fp : List Addr), PTs (X.blk s H scope (PySem.compEnvC scope cl C X.env) fp) ifs (tT X.K tt))
    (hk : ∀ (s : Shared) (H : Hp) (C : Addr) (cl : List (Str × Addr)) (fp : List Addr), PE (X.blk s H scope (PySem.compEnvC scope cl C X.env) fp) kx (tE X.K tk))
    (he : ∀ (s : Shared) (H : Hp) (C : Addr) (cl : List (Str × Addr)) (fp : List Addr), PE (X.blk s H scope (PySem.compEnvC scope cl C X.env) fp) vx (tE X.K tv)) (hs : ∀ x, foldedSetIterable iter X.env x = pure x := by intro _; rfl) :
    PE X (.DictComp kx vx [⟨tg, iter, ifs, 0⟩] scope pos) (tE X.K (eDc it (own.map (·.2)) tgm tt tk tv)) := PE_imp (pe_dc hc hN hi ok hg ht hk he hs) (dc_read hgt)
theorem r_dcO (hc : X.calm = true) (hN : X.N.Nodup) (hi : PI X tg iter (tI X.K it)) (ok : BlkOk X.N X.env.scope scope own) (hgt : TgOk X.K gt tgm (own.map (·.2)))
    (hg : ∀ (s : Shared) (H : Hp) (C : Addr) (cl : List (Str × Addr)) (fp : List Addr), PG (X.blk s H scope (PySem.compEnvC scope cl C X.env) fp) tg gt) (ht : ∀ (s : Shared) (H : Hp) (C : Addr) (cl : List (Str × Addr)) (fp : List Addr), PTs (X.blk s H scope (PySem.compEnvC scope cl C X.env) fp) ifs (tT X.K tt))
    (hk : ∀ (s : Shared) (H : Hp) (C : Addr) (cl : List (Str × Addr)) (fp : List Addr), PE (X.blk s H scope (PySem.compEnvC scope cl C X.env) fp) kx (tE X.K tk))
    (he : ∀ (s : Shared) (H : Hp) (C : Addr) (cl : List (Str × Addr)) (fp : List Addr), PE (X.blk s H scope (PySem.compEnvC scope cl C X.env) fp) vx (tE X.K tv)) (hs : ∀ x, foldedSetIterable iter X.env x = pure x := by intro _; rfl) :
    PE X (.DictComp kx vx [⟨tg, iter, ifs, 0⟩] scope pos) (tE X.K (eDcO it (own.map (·.2)) tgm tt tk tv)) := PE_imp (pe_dc hc hN hi ok hg ht hk he hs) (dcO_read hgt)
end
end
/-! #### the single operators -/
section
variable {X : Cx} {a b c : Expr} {fa fb fc : Ex} {pos : Pos}
theorem q_add (ha : PE X a (tE X.K fa)) (hb : PE X b (tE X.K fb)) : PE X (.BinOp a .Add b pos) (tE X.K (eBin (g2 opAdd) fa fb)) := r_op op_addA d_add.r2 ha hb
theorem q_sub (ha : PE X a (tE X.K fa)) (hb : PE X b (tE X.K fb)) : PE X (.BinOp a .Sub b pos) (tE X.K (eBin (g2 opSub) fa fb)) := r_op op_sub d_sub.r2 ha hb
theorem q_mul (ha : PE X a (tE X.K fa)) (hb : PE X b (tE X.K fb)) : PE X (.BinOp a .Mult b pos) (tE X.K (eBin (g2 opMulA) fa fb)) := r_op op_mulA d_mulA.r2 ha hb
theorem q_div (ha : PE X a (tE X.K fa)) (hb : PE X b (tE X.K fb)) : PE X (.BinOp a .FloorDiv b pos) (tE X.K (eBin (g2 opDiv) fa fb)) := r_op op_fdiv d_div.r2 ha hb
theorem q_mod (ha : PE X a (tE X.K fa)) (hb : PE X b (tE X.K fb)) : PE X (.BinOp a .Mod b pos) (tE X.K (eBin (g2 opMod) fa fb)) := r_op op_mod d_mod.r2 ha hb
theorem q_pow (ha : PE X a (tE X.K fa)) (hb : PE X b (tE X.K fb)) : PE X (.BinOp a .Pow b pos) (tE X.K (eBin (g2 opPow) fa fb)) := r_op op_pow d_pow.r2 ha hb
theorem q_ix (ha : PE X a (tE X.K fa)) (hb : PE X b (tE X.K fb)) (hs : PlainIx b := by intro _ _; rfl) : PE X (.Subscript a b pos) (tE X.K (eBin gIx fa fb)) := r_ix ix_seq d_ixA ha hb hs
end
/-- the comparisons: an operator with its reading -/
structure CmpR (X : Cx) (op : CmpOp) (g : G2) : Prop where
  ex : ∃ r, OpR X (compareOp op) r ∧ R2Ok X.K r g
section
variable {X : Cx} {a b c : Expr} {fa fb fc : Ex} {pos : Pos} {op op' : CmpOp} {g g' : G2}
theorem c_lt : CmpR X .Lt (g2 opLt) := ⟨_, op_lt, d_lt.r2⟩
theorem c_le : CmpR X .LtE (g2 opLe) := ⟨_, op_le, d_le.r2⟩
theorem c_gt : CmpR X .Gt (g2 opGt) := ⟨_, op_gt, d_gt.r2⟩
theorem c_ge : CmpR X .GtE (g2 opGe) := ⟨_, op_ge, d_ge.r2⟩
theorem c_eq (hu : X.A.units + 64 < cLine) : CmpR X .Eq (g2 opEqA) := ⟨_, op_eqA hu, d_eqA.r2⟩
theorem c_ne (hu : X.A.units + 64 < cLine) : CmpR X .NotEq (g2 opNeA) := ⟨_, op_neA hu, d_neA.r2⟩
theorem c_in (hu : X.A.units + 65 < cLine) : CmpR X .In (g2 opIn) := ⟨_, op_inT hu, d_in.r2⟩
theorem c_nin (hu : X.A.units + 65 < cLine) : CmpR X .NotIn (g2 opNotIn) := ⟨_, op_notInT hu, d_notIn.r2⟩
theorem c_is : CmpR X .Is (g2 opIsN) := ⟨_, op_isN, d_isN.r2⟩
theorem c_isnt : CmpR X .IsNot (g2 opNotN) := ⟨_, op_notN, d_notN.r2⟩
theorem q_cmp (h : CmpR X op g) (ha : PE X a (tE X.K fa)) (hb : PE X b (tE X.K fb)) (hm : behindInMarks op b = false := by rfl) : PE X (.Compare a [op] [b] pos) (tE X.K (eBin g fa fb)) := by
  obtain ⟨r, h1, h2⟩ := h.ex
  exact r_cmp h1 h2 ha hb hm
theorem q_cmpT (h : CmpR X op g) (ha : PE X a (tE X.K fa)) (hb : PE X b (tE X.K fb)) (hm : behindInMarks op b = false := by rfl) : PT X (.Compare a [op] [b] pos) (tT X.K (tOf (eBin g fa fb))) := by
  obtain ⟨r, h1, h2⟩ := h.ex
  exact r_cmpT h1 h2 ha hb hm
theorem q_chain (h : CmpR X op g) (h' : CmpR X op' g') (ha : PE X a (tE X.K fa)) (hb : PE X b (tE X.K fb)) (hc : PE X c (tE X.K fc)) (hm : lastMarks [op, op'] [b, c] = false := by with_unfolding_all rfl) : PE X (.Compare a [op, op'] [b, c] pos) (tE X.K (eChain g g' fa fb fc)) := by
  obtain ⟨r, h1, h2⟩ := h.ex
  obtain ⟨r', h3, h4⟩ := h'.ex
  exact r_chain h1 h2 h3 h4 ha hb hc hm
theorem q_chainT (h : CmpR X op g) (h' : CmpR X op' g') (ha : PE X a (tE X.K fa)) (hb : PE X b (tE X.K fb)) (hc : PE X c (tE X.K fc)) (hm : lastMarks [op, op'] [b, c] = false := by with_unfolding_all rfl) : PT X (.Compare a [op, op'] [b, c] pos) (tT X.K (tOf (eChain g g' fa fb fc))) := by
  obtain ⟨r, h1, h2⟩ := h.ex
  obtain ⟨r', h3, h4⟩ := h'.ex
  exact r_chainT h1 h2 h3 h4 ha hb hc hm
theorem u64 {A : Around} {k : Nat} (hr : Room k A) : A.units + 64 < cLine := hr.units
theorem u65 {A : Around} {k : Nat} (hr : Room k A) : A.units + 65 < cLine := by have := hr.un; omega
end
/-! #### the built-ins by name -/
section
variable {X : Cx} {a b : Expr} {fa fb : Ex} {p pos : Pos}
theorem q_len (hm : X.mg "len" = none) (ha : PE X a (tE X.K fa)) (hg : Gl X "len" := by rfl) (hs : starEach [a] X.env = (false, eval a X.env) :: starEach [] X.env := by rfl) (hpl : (backTo pos (starEach [] X.env)).any (·.1) = false := by rfl) : PE X (.Call (.Name "len" p) [a] [] pos) (tE X.K (eUn opLen fa)) :=
  r_b1 call_lenA d_len1 hg hm PySem.boot_len ha (by decide) (by decide) hs hpl
theorem q_max (hc : X.calm = true) (hm : X.mg "max" = none) (ha : PE X a (tE X.K fa)) (hg : Gl X "max" := by rfl) (hs : starEach [a] X.env = (false, eval a X.env) :: starEach [] X.env := by rfl) (hpl : (backTo pos (starEach [] X.env)).any (·.1) = false := by rfl) : PE X (.Call (.Name "max" p) [a] [] pos) (tE X.K (eUn opMax fa)) :=
  r_b1 (cr_max hc) d_max1 hg hm (by decide +kernel) ha (by decide) (by decide) hs hpl
theorem q_min (hc : X.calm = true) (hm : X.mg "min" = none) (ha : PE X a (tE X.K fa)) (hg : Gl X "min" := by rfl) (hs : starEach [a] X.env = (false, eval a X.env) :: starEach [] X.env := by rfl) (hpl : (backTo pos (starEach [] X.env)).any (·.1) = false := by rfl) : PE X (.Call (.Name "min" p) [a] [] pos) (tE X.K (eUn opMin fa)) :=
  r_b1 (cr_min hc) d_min1 hg hm (by decide +kernel) ha (by decide) (by decide) hs hpl
theorem q_sum (hc : X.calm = true) (hm : X.mg "sum" = none) (ha : PE X a (tE X.K fa)) (hg : Gl X "sum" := by rfl) (hs : starEach [a] X.env = (false, eval a X.env) :: starEach [] X.env := by rfl) (hpl : (backTo pos (starEach [] X.env)).any (·.1) = false := by rfl) : PE X (.Call (.Name "sum" p) [a] [] pos) (tE X.K (eUn opSum fa)) :=
  r_b1 (cr_sumB hc) d_sum1 hg hm (by decide +kernel) ha (by decide) (by decide) hs hpl
theorem q_abs (hm : X.mg "abs" = none) (ha : PE X a (tE X.K fa)) (hg : Gl X "abs" := by rfl) (hs : starEach [a] X.env = (false, eval a X.env) :: starEach [] X.env := by rfl) (hpl : (backTo pos (starEach [] X.env)).any (·.1) = false := by rfl) : PE X (.Call (.Name "abs" p) [a] [] pos) (tE X.K (eUn opAbs fa)) :=
  r_b1 call_abs d_abs1 hg hm (by decide +kernel) ha (by decide) (by decide) hs hpl
theorem q_int (hm : X.mg "int" = none) (ha : PE X a (tE X.K fa)) (hg : Gl X "int" := by rfl) (hs : starEach [a] X.env = (false, eval a X.env) :: starEach [] X.env := by rfl) (hpl : (backTo pos (starEach [] X.env)).any (·.1) = false := by rfl) : PE X (.Call (.Name "int" p) [a] [] pos) (tE X.K (eUn opInt fa)) :=
  r_t1 call_int1 d_int1 hg hm (by decide +kernel) ha (by decide) (by decide) hs hpl
theorem q_tuple (hm : X.mg "tuple" = none) (ha : PE X a (tE X.K fa)) (hg : Gl X "tuple" := by rfl) (hs : starEach [a] X.env = (false, eval a X.env) :: starEach [] X.env := by rfl) (hpl : (backTo pos (starEach [] X.env)).any (·.1) = false := by rfl) : PE X (.Call (.Name "tuple" p) [a] [] pos) (tE X.K (eUn opTuple fa)) :=
  r_t1 call_tuple_of d_tuple1 hg hm (by decide +kernel) ha (by decide) (by decide) hs hpl
theorem q_list (hm : X.mg "list" = none) (ha : PE X a (tE X.K fa)) (hg : Gl X "list" := by rfl) (hs : starEach [a] X.env = (false, eval a X.env) :: starEach [] X.env := by rfl) (hpl : (backTo pos (starEach [] X.env)).any (·.1) = false := by rfl) : PE X (.Call (.Name "list" p) [a] [] pos) (tE X.K (eUn opList fa)) :=
  r_t1 call_list_of d_list1 hg hm (by decide +kernel) ha (by decide) (by decide) hs hpl
theorem q_listO (hm : X.mg "list" = none) (ha : PE X a (tE X.K fa)) (hg : Gl X "list" := by rfl) (hs : starEach [a] X.env = (false, eval a X.env) :: starEach [] X.env := by rfl) (hpl : (backTo pos (starEach [] X.env)).any (·.1) = false := by rfl) : PE X (.Call (.Name "list" p) [a] [] pos) (tE X.K (eListO fa)) :=
  r_listO hg hm (by decide +kernel) ha (by decide) (by decide) hs hpl
theorem q_max2 (hc : X.calm = true) (hm : X.mg "max" = none) (ha : PE X a (tE X.K fa)) (hb : PE X b (tE X.K fb)) (hg : Gl X "max" := by rfl) (hs : starEach [a, b] X.env = (false, eval a X.env) :: starEach [b] X.env := by rfl) (hs2 : starEach [b] X.env = (false, eval b X.env) :: starEach [] X.env := by rfl) (hpl : (backTo pos (starEach [b] X.env)).any (·.1) = false := by rfl) :
    PE X (.Call (.Name "max" p) [a, b] [] pos) (tE X.K (eBi opMax2 fa fb)) := r_b2 (call_max2 hc) d_max2 hg hm (by decide +kernel) ha hb (by decide) (by decide) hs hs2 hpl
theorem q_min2 (hc : X.calm = true) (hm : X.mg "min" = none) (ha : PE X a (tE X.K fa)) (hb : PE X b (tE X.K fb)) (hg : Gl X "min" := by rfl) (hs : starEach [a, b] X.env = (false, eval a X.env) :: starEach [b] X.env := by rfl) (hs2 : starEach [b] X.env = (false, eval b X.env) :: starEach [] X.env := by rfl) (hpl : (backTo pos (starEach [b] X.env)).any (·.1) = false := by rfl) :
    PE X (.Call (.Name "min" p) [a, b] [] pos) (tE X.K (eBi opMin2 fa fb)) := r_b2 (call_min2 hc) d_min2 hg hm (by decide +kernel) ha hb (by decide) (by decide) hs hs2 hpl
theorem q_isi {T : String} {y : Str} {p2 : Pos} (hT : T ∈ askable) (hm : X.mg "isinstance" = none) (hmT : X.mg y = none) (hvT : bootBuiltins y = some (.type T)) (ha : PE X a (tE X.K fa)) (hg : Gl X "isinstance" := by rfl) (hgT : Gl X y := by rfl) (hnT : y ≠ "__name__" := by decide) (hdbT : (y == ("__debug__" : Str)) = false := by decide)
    (hs : starEach [a, .Name y p2] X.env = (false, eval a X.env) :: starEach [.Name y p2] X.env := by rfl) (hs2 : starEach [.Name y p2] X.env = (false, eval (.Name y p2) X.env) :: starEach [] X.env := by rfl) (hpl : (backTo pos (starEach [.Name y p2] X.env)).any (·.1) = false := by rfl) :
    PE X (.Call (.Name "isinstance" p) [a, .Name y p2] [] pos) (tE X.K (eIsi T fa)) := r_isi hT hg hm (by decide +kernel) hgT hmT hvT ha (by decide) (by decide) hnT hdbT hs hs2 hpl
end
theorem at_of {x : Str} {ps : List Str} {st : Stmt} {K : PySem.W.Frag} {h : Heap} {mg : Str → Option Value} {f : Addr} {oc : Value} {od an : Option Addr} {osl : Array (Option Value)} {kV doc pm cdv ct : Value} (X : K.In h) (G : h.Ns mainGlobals mg)
    (a : PySem.W.nsIn K mainGlobals x = some (some (.ref f))) (l : K.lookup f = some ⟨oc, od, .func (PySem.W.fnOf x x (defArgs st) (defBody st) (defScope st) .none kV doc pm an cdv ct), osl⟩) (c : PySem.W.codeIn K cdv x = true) (k : PySem.W.keepIn K (.ref f) = true)
    (hb : ∀ (kV doc pm : Value) (an : Option Addr) (cdv ct : Value) (us : List Value), us.length = ps.length → bindArgs (PySem.W.fnOf x x (defArgs st) (defBody st) (defScope st) .none kV doc pm an cdv ct) ⟨us, []⟩ = pure (ps.zip us)) :
    At K mg x ps st f (PySem.W.fnOf x x (defArgs st) (defBody st) (defScope st) .none kV doc pm an cdv ct) :=
  ⟨fun_mk l c k, PySem.W.mg_of X G a, (fun_mk (x := x) (qual := x) (st := st) l c k).binds hb⟩
end PL
/-! PL12: sorted lists of ints, ranges with a step. -/
namespace PL
open PySem PySem.Spec L2
set_option autoImplicit false
/-! ### sorted -/
def srt (ns : List Int) : List Int := ns.mergeSort fun a b => decide (a ≤ b)
theorem srt_perm (ns : List Int) : (srt ns).Perm ns := List.mergeSort_perm _ _
theorem srt_sorted (ns : List Int) : (srt ns).Pairwise (· ≤ ·) :=
  (List.pairwise_mergeSort (le := fun a b : Int => decide (a ≤ b)) (fun a b c h1 h2 => decide_eq_true (Int.le_trans (of_decide_eq_true h1) (of_decide_eq_true h2))) (fun a b => by
    rw [Bool.or_eq_true]
    rcases Int.le_total a b with h | h
    · exact .inl (decide_eq_true h)
    · exact .inr (decide_eq_true h)) ns).imp fun h => of_decide_eq_true h
theorem srt_unique {ns ns' : List Int} (h : ns'.Perm ns) (p : ns'.Pairwise (· ≤ ·)) : ns' = srt ns :=
  List.Perm.eq_of_pairwise (le := (· ≤ ·)) (fun _ _ _ _ h1 h2 => Int.le_antisymm h1 h2) p (srt_sorted ns) (h.trans (srt_perm ns).symm)
def opSorted : D → Option D
  | .lst xs => (intsOf xs).map fun ns => .lst ((srt ns).map .int)
  | _ => none
section
variable {K : PySem.W.Frag}
theorem d_sorted1 : D1Ok K (rSortedI K) opSorted := by
  intro x H F dx d Q s rx hd q
  unfold opSorted at hd
  split at hd
  · obtain ⟨ns, h1, rfl⟩ := Option.map_eq_some_iff.mp hd
    obtain ⟨_, _, rfl, hq0, z, r0⟩ := rx.list s
    rw [intsOf_eq h1] at r0
    obtain ⟨a, e, hq⟩ := list_ints s rx h1
    cases e
    refine ⟨_, ns, rfl, hq, fun ns' p hp hs hn => ?_⟩
    have e := srt_unique hp hs
    subst e
    have g := Grow.laid (o := .lst ((srt ns).map V.int)) s hn
    have hl : ((srt ns).map V.int).length ≤ sizeLine := by
      rw [List.length_map, (srt_perm ns).length_eq]
      have := r0.length
      rw [List.length_map] at this
      rw [← this]; exact z
    have rr : ∀ (F : Hp) (l : List Int), Reps K F (l.map V.int) (l.map D.int) := fun F l => by
      induction l with
      | nil => exact .nil
      | cons a l ih => exact .cons .int ih
    exact q _ _ _ g (.lst upd_same hl (rr _ _))
  · cases hd
end
section
variable {X : Cx} {a : Expr} {fa : Ex} {p pos : Pos}
theorem q_sorted (hm : X.mg "sorted" = none) (ha : PE X a (tE X.K fa)) (hg : Gl X "sorted" := by rfl) (hs : starEach [a] X.env = (false, eval a X.env) :: starEach [] X.env := by rfl) (hpl : (backTo pos (starEach [] X.env)).any (·.1) = false := by rfl) : PE X (.Call (.Name "sorted" p) [a] [] pos) (tE X.K (eUn opSorted fa)) :=
  r_b1 cr_sortedI d_sorted1 hg hm (by decide +kernel) ha (by decide) (by decide) hs hpl
end
/-! ### [x] * n, that will be written -/
noncomputable def gRepO : G2 := fun x y m => (look m x).bind fun dx => (look m y).bind fun dy => match dx, dy with
  | .lst xs, .int k => if okP (-(2 ^ 63) ≤ k ∧ k < 2 ^ 63 ∧ xs.length * k.toNat ≤ big) = true then some (.own m.length, m ++ [.lst (List.replicate k.toNat xs).flatten]) else none
  | _, _ => none
theorem d_repO {K : PySem.W.Frag} : R2Ok K rRep gRepO := by
  intro x y H F as m ex ey e m' Q hp rx ry hf q
  obtain ⟨dx, h1, hf⟩ := bind2 hf
  obtain ⟨dy, h2, hf⟩ := bind2 hf
  have r1 := look_rep hp rx h1
  have r2 := look_rep hp ry h2
  cases dx with
  | lst xs =>
    cases dy with
    | int k =>
      have hf : (if okP (-(2 ^ 63) ≤ k ∧ k < 2 ^ 63 ∧ xs.length * k.toNat ≤ big) = true then some (E.own m.length, m ++ [O.lst (List.replicate k.toNat xs).flatten]) else none) = some (e, m') := hf
      by_cases z : okP (-(2 ^ 63) ≤ k ∧ k < 2 ^ 63 ∧ xs.length * k.toNat ≤ big) = true
      · rw [if_pos z] at hf
        have z := of_okP z
        cases hf
        obtain ⟨a, vs, rfl, g1, z1, r⟩ := r1.list hp.sub
        refine ⟨a, k, vs, rfl, r2.int, g1, z.1, z.2.1, by rw [r.length]; exact big_le z.2.2, fun p hn => ?_⟩
        refine q _ _ F ⟨as.c ++ [p], as.g⟩ ⟨Same.refl _, pre_snoc _ _, rfl⟩ (hp.cellNew hn ⟨hp.sub.free hn, by rw [rep_len]; exact big_le z.2.2, _, upd_same, r.rep _⟩) (.own ?_)
        rw [← hp.len]
        simp
      · rw [if_neg z] at hf
        cases hf
    | _ => cases hf
  | _ => cases hf
section
variable {X : Cx} {a b : Expr} {fa fb : Ex} {pos : Pos}
theorem q_repO (ha : PE X a (tE X.K fa)) (hb : PE X b (tE X.K fb)) : PE X (.BinOp a .Mult b pos) (tE X.K (eBin gRepO fa fb)) := r_op op_rep d_repO ha hb
end
/-! ### x = {..: .. for ..}, a plain local -/
section
open PyProof.Rows
variable {X : Cx} {y : Str} {py pos spos : Pos} {kx vx tg iter : Expr} {ifs : List Expr} {scope : Scope} {own : List (Str × Nat)} {gt : TG} {tgm : Tg} {it : Ix} {tt : Tx} {tk tv : Ex} {i : Nat}
/-- of the places in a block of its own -/
abbrev InBlk (X : Cx) (scope : Scope) (p : Cx → Prop) : Prop := ∀ (s : Shared) (H : Hp) (C : Addr) (cl : List (Str × Addr)) (fp : List Addr), p (X.blk s H scope (PySem.compEnvC scope cl C X.env) fp)
theorem ps_setDc {wi : TI} {ttl : TT} {tkl tvl : TE} (hc : X.calm = true) (hN : X.N.Nodup) (hy : X.N[i]? = some y) (hyl : X.env.scope.names.lookup y = some .local)
    (hsw : swapsWith (.DictComp kx vx [⟨tg, iter, ifs, 0⟩] scope pos) (some (.Name y py)) spos.line X.env = pure true) (hi : PI X tg iter wi) (ok : BlkOk X.N X.env.scope scope own)
    (hg : InBlk X scope fun Y => PG Y tg gt) (ht : InBlk X scope fun Y => PTs Y ifs ttl) (hk : InBlk X scope fun Y => PE Y kx tkl) (he : InBlk X scope fun Y => PE Y vx tvl) (hs : ∀ x, foldedSetIterable iter X.env x = pure x) :
    PS X (.Assign [.Name y py] (.DictComp kx vx [⟨tg, iter, ifs, 0⟩] scope pos) spos) (tAsg (tDc wi gt ttl tkl tvl (own.map (·.2))) (gName i)) := by
  refine ⟨fun pins s σ H E I h => ?_⟩
  rw [exec_Assign_Name_used _ _ _ _ hsw]
  refine wpAny_bind (wpAny_standAt (wpAny_bind ?_))
  show wpAny _ X.A (do let _ ← comprehension (.DictComp kx vx [⟨tg, iter, ifs, 0⟩] scope pos) scope X.env (firstIterPos [⟨tg, iter, ifs, 0⟩] pos) newDict false (eval iter X.env) (some (assign (.Name y py) X.env))) _ _ s
  have h : tDc wi gt ttl tkl tvl (own.map (·.2)) σ H (fun x H1 => gName i x σ H1 E.nx) := h
  refine wpAny_bind (thn (dc_core (Qf := fun _ s2 => SP X pins E .next s2) hc hN I hi ok hg ht hk he hs h fun B C s2 m G I2 q nsC f => ?_) fun _ s2 hq => wpAny_pure (wpAny_pure hq))
  show wpAny _ _ (assign (.Name y py) X.env (.ref B)) _ _ _
  refine wpAny_assign_Name (store_ok2 (v := V.ref B) I2 hN hy (.inl hyl) rfl (fun s3 I3 ⟨a, sb, ha⟩ => ?_) (.inr hyl))
  obtain ⟨u0, u1, u2, u3, u4, u5⟩ := f
  have ne : C ≠ a := by
    rcases ha with z | z
    · rw [z]; exact u1
    · exact fun e => u4 y a z e.symm
  exact ⟨m, nsC.sameBut sb ne, fun _ sb3 => ⟨_, G, I3.turned (t' := s3.toks) (fun b o hb e => (sb3.2 b hb).trans e) u0 u1 u3 u4 u5, q⟩⟩
theorem sw_trueD {gs : List Comprehension} {l : Nat} {env : Env} (hk : env.scope.kind = .function) (hy : env.scope.names.lookup y = some .local) (hl : (py.line == pos.line) = true)
    (ha : (scope.names.any fun (n, k) => n == y && (k == .local || k == .cell)) = false) : swapsWith (.DictComp kx vx gs scope pos) (some (.Name y py)) l env = pure true := by
  have e1 : env.kindOf y = some .local := hy
  have e2 : env.blockKind = .function := by
    unfold Env.blockKind
    rw [hk]
    rfl
  unfold swapsWith
  simp only [e2, e1, ha, Expr.pos, hl]
  rfl
theorem r_setDc (hc : X.calm = true) (hN : X.N.Nodup) (hy : X.N[i]? = some y) (hyl : X.env.scope.names.lookup y = some .local)
    (hsw : swapsWith (.DictComp kx vx [⟨tg, iter, ifs, 0⟩] scope pos) (some (.Name y py)) spos.line X.env = pure true) (hi : PI X tg iter (tI X.K it)) (ok : BlkOk X.N X.env.scope scope own) (hgt : TgOk X.K gt tgm (own.map (·.2)))
    (hg : InBlk X scope fun Y => PG Y tg gt) (ht : InBlk X scope fun Y => PTs Y ifs (tT X.K tt)) (hk : InBlk X scope fun Y => PE Y kx (tE X.K tk)) (he : InBlk X scope fun Y => PE Y vx (tE X.K tv)) (hs : ∀ x, foldedSetIterable iter X.env x = pure x := by intro _; rfl) :
    PS X (.Assign [.Name y py] (.DictComp kx vx [⟨tg, iter, ifs, 0⟩] scope pos) spos) (tS X.K (sSet i (eDc it (own.map (·.2)) tgm tt tk tv))) :=
  PS_imp (PS_imp (ps_setDc hc hN hy hyl hsw hi ok hg ht hk he hs) fun D σ H h => dc_read hgt σ H _ h) (asg_read (tgOk_name (vs := [i]) (List.mem_singleton.mpr rfl)))
theorem r_setDcO (hc : X.calm = true) (hN : X.N.Nodup) (hy : X.N[i]? = some y) (hyl : X.env.scope.names.lookup y = some .local)
    (hsw : swapsWith (.DictComp kx vx [⟨tg, iter, ifs, 0⟩] scope pos) (some (.Name y py)) spos.line X.env = pure true) (hi : PI X tg iter (tI X.K it)) (ok : BlkOk X.N X.env.scope scope own) (hgt : TgOk X.K gt tgm (own.map (·.2)))
    (hg : InBlk X scope fun Y => PG Y tg gt) (ht : InBlk X scope fun Y => PTs Y ifs (tT X.K tt)) (hk : InBlk X scope fun Y => PE Y kx (tE X.K tk)) (he : InBlk X scope fun Y => PE Y vx (tE X.K tv)) (hs : ∀ x, foldedSetIterable iter X.env x = pure x := by intro _; rfl) :
    PS X (.Assign [.Name y py] (.DictComp kx vx [⟨tg, iter, ifs, 0⟩] scope pos) spos) (tS X.K (sSet i (eDcO it (own.map (·.2)) tgm tt tk tv))) :=
  PS_imp (PS_imp (ps_setDc hc hN hy hyl hsw hi ok hg ht hk he hs) fun D σ H h => dcO_read hgt σ H _ h) (asg_read (tgOk_name (vs := [i]) (List.mem_singleton.mpr rfl)))
end
end PL
namespace Lw
open PySem PySem.Spec L2 PL
set_option autoImplicit false
noncomputable def b_meetings_of : Sx :=
  (sRet (eLc (iRange1 (eUn opLen (eBin gIx (eV 0) (eC (.int 1))))) [2] (tgName 2) (tOf (eBin (g2 opIn) (eV 1) (eBin gIx (eBin gIx (eV 0) (eC (.int 1))) (eV 2)))) (eV 2)))
noncomputable def m_meetings_of : Fx := fnD 2 1 b_meetings_of
noncomputable def b_load : Sx :=
  (sRet (eUn opLen (eCall m_meetings_of (aCons (eV 0) (aCons (eV 1) aNil)))))
noncomputable def m_load : Fx := fnD 2 0 b_load
noncomputable def b_two_in : Sx :=
  (sRet (eUn opLen (eLc (iSeq (eBin gIx (eV 0) (eC (.int 1)))) [2, 3] (tgTup [2, 3]) (tAndM (tOf (eBin (g2 opIn) (eV 2) (eV 1))) (tOf (eBin (g2 opIn) (eV 3) (eV 1)))) (eC (.int 1)))))
noncomputable def m_two_in : Fx := fnD 2 2 b_two_in
noncomputable def b_other_of : Sx :=
  (sSeq (sAsg (eBin gIx (eBin gIx (eV 0) (eC (.int 1))) (eV 1)) (tgTup [3, 4]))
    (sRet (eIf (tOf (eBin (g2 opEqA) (eV 2) (eV 3))) (eV 4) (eV 3))))
noncomputable def m_other_of : Fx := fnD 3 2 b_other_of
noncomputable def b_shows_busy : Sx :=
  (sRet (eAnd (eChain (g2 opLe) (g2 opLt) (eC (.int 0)) (eV 2) (eBin gIx (eV 0) (eC (.int 0)))) (eBin (g2 opGt) (eCall m_load (aCons (eV 0) (aCons (eV 2) aNil))) (eV 1))))
noncomputable def m_shows_busy : Fx := fnD 3 0 b_shows_busy
noncomputable def b_shows_crowd : Sx :=
  (sSeq (sIf (tOrM (tOf (eBin (g2 opLt) (eUn opLen (eV 2)) (eC (.int 3)))) (tOf (eBin (g2 opEqA) (eBin (g2 opMod) (eUn opLen (eV 2)) (eC (.int 2))) (eC (.int 0))))) (sRet (eC (.bl false))) sNil)
    (sSeq (sFor (iRange1 (eUn opLen (eV 2))) (tgName 3) (sIf (tOrM (tNotM (tOf (eChain (g2 opLe) (g2 opLt) (eC (.int 0)) (eBin gIx (eV 2) (eV 3)) (eBin gIx (eV 0) (eC (.int 0)))))) (tAndM (tOf (eBin (g2 opGt) (eV 3) (eC (.int 0)))) (tNotM (tOf (eBin (g2 opLt) (eBin gIx (eV 2) (eBin (g2 opSub) (eV 3) (eC (.int 1)))) (eBin gIx (eV 2) (eV 3))))))) (sRet (eC (.bl false))) sNil))
    (sRet (eBin (g2 opGt) (eCall m_two_in (aCons (eV 0) (aCons (eV 2) aNil))) (eBin (g2 opMulA) (eV 1) (eBin (g2 opDiv) (eUn opLen (eV 2)) (eC (.int 2))))))))
noncomputable def m_shows_crowd : Fx := fnD 3 1 b_shows_crowd
noncomputable def b_odd_parts : Sx :=
  (sSeq (sSet 2 (eDcO (iSeq (eV 1)) [9] (tgName 9) tTrue (eV 9) (eC (.bl true))))
    (sSeq (sSet 3 (eC (.int 0)))
    (sSeq (sFor (iRange1 (eBin gIx (eV 0) (eC (.int 0)))) (tgName 4) (sIf (tOf (eNotInD (eV 4) (eV 2))) (sSeq (sSet 5 (eLstO (aCons (eV 4) aNil)))
    (sSeq (sPutD (eV 2) (eV 4) (eC (.bl true)))
    (sSeq (sSet 6 (eC (.int 0)))
    (sSeq (sWhile wN (tOf (eBin (g2 opLt) (eV 6) (eUn opLen (eV 5)))) (sSeq (sFor (iSeq (eCall m_meetings_of (aCons (eV 0) (aCons (eBin gIx (eV 5) (eV 6)) aNil)))) (tgName 7) (sSeq (sSet 8 (eCall m_other_of (aCons (eV 0) (aCons (eV 7) (aCons (eBin gIx (eV 5) (eV 6)) aNil)))))
    (sIf (tOf (eNotInD (eV 8) (eV 2))) (sSeq (sPutD (eV 2) (eV 8) (eC (.bl true)))
    (sExp (eApp (eV 5) (eV 8)))) sNil)))
    (sSet 6 (eBin (g2 opAdd) (eV 6) (eC (.int 1))))))
    (sSet 3 (eBin (g2 opAdd) (eV 3) (eBin (g2 opMod) (eUn opLen (eV 5)) (eC (.int 2))))))))) sNil))
    (sRet (eV 3)))))
noncomputable def m_odd_parts : Fx := fnD 2 8 b_odd_parts
noncomputable def b_are_people : Sx :=
  (sSeq (sFor (iRange1 (eUn opLen (eV 1))) (tgName 2) (sIf (tOrM (tNotM (tOf (eChain (g2 opLe) (g2 opLt) (eC (.int 0)) (eBin gIx (eV 1) (eV 2)) (eBin gIx (eV 0) (eC (.int 0)))))) (tAndM (tOf (eBin (g2 opGt) (eV 2) (eC (.int 0)))) (tNotM (tOf (eBin (g2 opLt) (eBin gIx (eV 1) (eBin (g2 opSub) (eV 2) (eC (.int 1)))) (eBin gIx (eV 1) (eV 2))))))) (sRet (eC (.bl false))) sNil))
    (sRet (eC (.bl true))))
noncomputable def m_are_people : Fx := fnD 2 1 b_are_people
noncomputable def b_shows_bar : Sx :=
  (sRet (eAnd (eCall m_are_people (aCons (eV 0) (aCons (eV 2) aNil))) (eBin (g2 opLe) (eBin (g2 opDiv) (eBin (g2 opSub) (eBin (g2 opAdd) (eBin gIx (eV 0) (eC (.int 0))) (eUn opLen (eV 2))) (eCall m_odd_parts (aCons (eV 0) (aCons (eV 2) aNil)))) (eC (.int 2))) (eV 1))))
noncomputable def m_shows_bar : Fx := fnD 3 0 b_shows_bar
noncomputable def b_shows_sides : Sx :=
  (sSeq (sIf (tOrM (tOf (eBin (g2 opNeA) (eUn opLen (eV 1)) (eBin gIx (eV 0) (eC (.int 0))))) (tOf (eBin (g2 opGt) (eUn opLen (eLc (iSeq (eV 1)) [4] (tgName 4) (tOf (eBin (g2 opNotIn) (eV 4) (eTup (aCons (eC (.int 0)) (aCons (eC (.int 1)) aNil))))) (eC (.int 1)))) (eC (.int 0))))) (sRet (eC (.bl false))) sNil)
    (sRet (eBin (g2 opEqA) (eUn opLen (eLc (iSeq (eBin gIx (eV 0) (eC (.int 1)))) [2, 3] (tgTup [2, 3]) (tOf (eBin (g2 opEqA) (eBin gIx (eV 1) (eV 2)) (eBin gIx (eV 1) (eV 3)))) (eC (.int 1)))) (eC (.int 0)))))
noncomputable def m_shows_sides : Fx := fnD 2 3 b_shows_sides
noncomputable def b_shows_ring : Sx :=
  (sSeq (sIf (tOrM (tOf (eBin (g2 opLt) (eUn opLen (eV 1)) (eC (.int 3)))) (tOf (eBin (g2 opEqA) (eBin (g2 opMod) (eUn opLen (eV 1)) (eC (.int 2))) (eC (.int 0))))) (sRet (eC (.bl false))) sNil)
    (sSeq (sFor (iRange1 (eUn opLen (eV 1))) (tgName 2) (sSeq (sAsg (eUn opSorted (eLst (aCons (eBin gIx (eV 1) (eBin (g2 opSub) (eV 2) (eC (.int 1)))) (aCons (eBin gIx (eV 1) (eV 2)) aNil)))) (tgTup [3, 4]))
    (sIf (tOf (eBin (g2 opNotIn) (eTup (aCons (eV 3) (aCons (eV 4) aNil))) (eBin gIx (eV 0) (eC (.int 1))))) (sRet (eC (.bl false))) sNil)))
    (sRet (eC (.bl true)))))
noncomputable def m_shows_ring : Fx := fnD 2 3 b_shows_ring
noncomputable def b_shows_shares : Sx :=
  (sSeq (sIf (tOrM (tOf (eBin (g2 opNeA) (eUn opLen (eV 3)) (eBin gIx (eV 0) (eC (.int 0))))) (tOrM (tOf (eBin (g2 opGt) (eUn opLen (eLc (iSeq (eV 3)) [5] (tgName 5) (tOf (eBin (g2 opLt) (eV 5) (eC (.int 0)))) (eC (.int 1)))) (eC (.int 0)))) (tOf (eBin (g2 opGt) (eUn opSum (eV 3)) (eV 2))))) (sRet (eC (.bl false))) sNil)
    (sRet (eBin (g2 opEqA) (eUn opLen (eLc (iRange1 (eUn opLen (eV 1))) [4] (tgName 4) (tOf (eBin (g2 opLt) (eBin (g2 opAdd) (eBin gIx (eV 3) (eBin gIx (eBin gIx (eBin gIx (eV 0) (eC (.int 1))) (eV 4)) (eC (.int 0)))) (eBin gIx (eV 3) (eBin gIx (eBin gIx (eBin gIx (eV 0) (eC (.int 1))) (eV 4)) (eC (.int 1))))) (eBin gIx (eV 1) (eV 4)))) (eC (.int 1)))) (eC (.int 0)))))
noncomputable def m_shows_shares : Fx := fnD 4 2 b_shows_shares
noncomputable def b_shows_watch : Sx :=
  (sSeq (sIf (tNotM (tOf (eCall m_are_people (aCons (eV 0) (aCons (eV 1) aNil))))) (sRet (eC (.bl false))) sNil)
    (sRet (eBin (g2 opEqA) (eUn opLen (eLc (iSeq (eBin gIx (eV 0) (eC (.int 1)))) [2, 3] (tgTup [2, 3]) (tAndM (tOf (eBin (g2 opNotIn) (eV 2) (eV 1))) (tOf (eBin (g2 opNotIn) (eV 3) (eV 1)))) (eC (.int 1)))) (eC (.int 0)))))
noncomputable def m_shows_watch : Fx := fnD 2 2 b_shows_watch
noncomputable def b__law_deal : Sx :=
  (sSeq (sSet 1 (eLstO aNil))
    (sSeq (sFor (iRange1 (eBi opMin2 (eUn opLen (eV 0)) (eC (.int 63)))) (tgName 2) (sSeq (sSet 3 (eUn opAbs (eUn opInt (eBin gIx (eV 0) (eV 2)))))
    (sIf (tOf (eBin (g2 opGe) (eV 3) (eBin (g2 opPow) (eC (.int 10)) (eC (.int 18))))) (sFor (iRange1 (eC (.int 40))) (tgName 4) (sIf (tOf (eBin (g2 opGt) (eV 3) (eC (.int 0)))) (sSeq (sExp (eApp (eV 1) (eBin (g2 opMod) (eV 3) (eC (.int 1009)))))
    (sSet 3 (eBin (g2 opDiv) (eV 3) (eC (.int 1009))))) sNil)) (sSeq (sSet 3 (eBin (g2 opAdd) (eBin (g2 opAdd) (eBin (g2 opMulA) (eBin (g2 opMod) (eV 3) (eC (.int 2147483629))) (eC (.int 48271))) (eBin (g2 opMulA) (eV 2) (eC (.int 69621)))) (eC (.int 11))))
    (sFor (iRange1 (eC (.int 5))) (tgName 4) (sSeq (sSet 3 (eBin (g2 opMod) (eBin (g2 opAdd) (eBin (g2 opAdd) (eBin (g2 opMulA) (eV 3) (eC (.int 16807))) (eC (.int 12345))) (eV 4)) (eC (.int 2147483647))))
    (sExp (eApp (eV 1) (eBin (g2 opMod) (eBin (g2 opDiv) (eV 3) (eC (.int 7))) (eC (.int 1009)))))))))))
    (sSeq (sSet 5 (eBin (g2 opAdd) (eUn opSum (eV 1)) (eUn opLen (eV 0))))
    (sRet (eDeal (eV 1) (eLstO (aCons (eC (.int 0)) aNil)) (eV 5))))))
noncomputable def m__law_deal : Fx := fnD 1 5 b__law_deal
noncomputable def b__law_take : Sx :=
  (sSeq (sSet 2 (eBin gIx (eBin gIx (eV 0) (eC (.int 1))) (eC (.int 0))))
    (sSeq (sPutL (eBin gIx (eV 0) (eC (.int 1))) (eC (.int 0)) (eBin (g2 opAdd) (eV 2) (eC (.int 1))))
    (sSeq (sIf (tOf (eBin (g2 opLt) (eV 2) (eUn opLen (eBin gIx (eV 0) (eC (.int 0)))))) (sRet (eBin (g2 opMod) (eBin gIx (eBin gIx (eV 0) (eC (.int 0))) (eV 2)) (eV 1))) sNil)
    (sRet (eBin (g2 opMod) (eBin (g2 opDiv) (eBin (g2 opAdd) (eBin (g2 opAdd) (eBin (g2 opMulA) (eV 2) (eC (.int 7919))) (eBin (g2 opMulA) (eBin gIx (eV 0) (eC (.int 2))) (eC (.int 31)))) (eBin (g2 opMulA) (eBin (g2 opMulA) (eV 2) (eV 2)) (eC (.int 17)))) (eC (.int 3))) (eV 1))))))
noncomputable def m__law_take : Fx := fnD 2 1 b__law_take
noncomputable def b__law_bool : Sx :=
  (sRet (eAnd (eIsi "bool" (eV 0)) (eBin (g2 opEqA) (eV 0) (eV 1))))
noncomputable def m__law_bool : Fx := fnD 2 0 b__law_bool
noncomputable def b__law_plain : Sx :=
  (sSeq (sSet 3 (eCall m__law_take (aCons (eV 0) (aCons (eBin (g2 opAdd) (eV 1) (eC (.int 1))) aNil))))
    (sSeq (sSet 4 (eBin (g2 opAdd) (eC (.int 1)) (eCall m__law_take (aCons (eV 0) (aCons (eC (.int 4)) aNil)))))
    (sSeq (sSet 5 (eLstO aNil))
    (sSeq (sFor (iRange1 (eV 3)) (tgName 6) (sFor (iRange2 (eBin (g2 opAdd) (eV 6) (eC (.int 1))) (eV 3)) (tgName 7) (sIf (tAndM (tOf (eBin (g2 opLt) (eCall m__law_take (aCons (eV 0) (aCons (eC (.int 5)) aNil))) (eV 4))) (tOf (eBin (g2 opLt) (eUn opLen (eV 5)) (eV 2)))) (sExp (eApp (eV 5) (eTup (aCons (eV 6) (aCons (eV 7) aNil))))) sNil)))
    (sSeq (sFor (iRange1 (eCall m__law_take (aCons (eV 0) (aCons (eC (.int 4)) aNil)))) (tgName 8) (sIf (tOf (eBin (g2 opGt) (eUn opLen (eV 5)) (eC (.int 1)))) (sSeq (sSet 9 (eCall m__law_take (aCons (eV 0) (aCons (eUn opLen (eV 5)) aNil))))
    (sSet 5 (eBin (g2 opAdd) (eSl (eV 5) (oSome (eV 9)) oNone) (eSl (eV 5) oNone (oSome (eV 9)))))) sNil))
    (sRet (eTup (aCons (eV 3) (aCons (eUn opTuple (eV 5)) aNil)))))))))
noncomputable def m__law_plain : Fx := fnD 3 7 b__law_plain
noncomputable def b__law_sided : Sx :=
  (sSeq (sSet 3 (eBin (g2 opAdd) (eC (.int 1)) (eCall m__law_take (aCons (eV 0) (aCons (eV 1) aNil)))))
    (sSeq (sSet 4 (eBin (g2 opAdd) (eC (.int 1)) (eCall m__law_take (aCons (eV 0) (aCons (eV 1) aNil)))))
    (sSeq (sSet 5 (eLstO aNil))
    (sSeq (sFor (iRange1 (eCall m__law_take (aCons (eV 0) (aCons (eBin (g2 opAdd) (eV 2) (eC (.int 1))) aNil)))) (tgName 6) (sExp (eApp (eV 5) (eTup (aCons (eCall m__law_take (aCons (eV 0) (aCons (eV 3) aNil))) (aCons (eBin (g2 opAdd) (eV 3) (eCall m__law_take (aCons (eV 0) (aCons (eV 4) aNil)))) aNil))))))
    (sRet (eTup (aCons (eBin (g2 opAdd) (eV 3) (eV 4)) (aCons (eUn opTuple (eV 5)) aNil))))))))
noncomputable def m__law_sided : Fx := fnD 3 4 b__law_sided
noncomputable def b__law_any : Sx :=
  (sSeq (sSet 2 (eCall m__law_take (aCons (eV 0) (aCons (eC (.int 3)) aNil))))
    (sSeq (sIf (tOf (eBin (g2 opEqA) (eV 2) (eC (.int 0)))) (sRet (eCall m__law_plain (aCons (eV 0) (aCons (eC (.int 6)) (aCons (eV 1) aNil))))) sNil)
    (sSeq (sIf (tOf (eBin (g2 opEqA) (eV 2) (eC (.int 1)))) (sRet (eCall m__law_sided (aCons (eV 0) (aCons (eC (.int 4)) (aCons (eV 1) aNil))))) sNil)
    (sSeq (sSet 3 (eBin (g2 opAdd) (eC (.int 2)) (eCall m__law_take (aCons (eV 0) (aCons (eC (.int 4)) aNil)))))
    (sSeq (sSet 4 (eLstO aNil))
    (sSeq (sFor (iRange1 (eCall m__law_take (aCons (eV 0) (aCons (eBin (g2 opAdd) (eV 1) (eC (.int 1))) aNil)))) (tgName 5) (sSeq (sSet 6 (eCall m__law_take (aCons (eV 0) (aCons (eBin (g2 opSub) (eV 3) (eC (.int 1))) aNil))))
    (sExp (eApp (eV 4) (eTup (aCons (eV 6) (aCons (eBin (g2 opAdd) (eBin (g2 opAdd) (eV 6) (eC (.int 1))) (eCall m__law_take (aCons (eV 0) (aCons (eBin (g2 opSub) (eBin (g2 opSub) (eV 3) (eC (.int 1))) (eV 6)) aNil)))) aNil)))))))
    (sRet (eTup (aCons (eV 3) (aCons (eUn opTuple (eV 4)) aNil))))))))))
noncomputable def m__law_any : Fx := fnD 2 5 b__law_any
noncomputable def b__law_few : Sx :=
  (sSeq (sSet 1 (eBin (g2 opSub) (eC (.int 4)) (eCall m__law_take (aCons (eV 0) (aCons (eC (.int 5)) aNil)))))
    (sSeq (sSet 2 (eLstO aNil))
    (sSeq (sFor (iRange1 (eCall m__law_take (aCons (eV 0) (aCons (eC (.int 4)) aNil)))) (tgName 3) (sIf (tOf (eBin (g2 opGt) (eV 1) (eC (.int 1)))) (sSeq (sSet 4 (eCall m__law_take (aCons (eV 0) (aCons (eBin (g2 opSub) (eV 1) (eC (.int 1))) aNil))))
    (sExp (eApp (eV 2) (eTup (aCons (eV 4) (aCons (eBin (g2 opAdd) (eBin (g2 opAdd) (eV 4) (eC (.int 1))) (eCall m__law_take (aCons (eV 0) (aCons (eBin (g2 opSub) (eBin (g2 opSub) (eV 1) (eC (.int 1))) (eV 4)) aNil)))) aNil)))))) sNil))
    (sRet (eTup (aCons (eV 1) (aCons (eUn opTuple (eV 2)) aNil)))))))
noncomputable def m__law_few : Fx := fnD 1 4 b__law_few
noncomputable def b__law_web : Sx :=
  (sRet (eIf (tOf (eBin (g2 opEqA) (eCall m__law_take (aCons (eV 0) (aCons (eC (.int 4)) aNil))) (eC (.int 0)))) (eCall m__law_few (aCons (eV 0) aNil)) (eCall m__law_any (aCons (eV 0) (aCons (eV 1) aNil)))))
noncomputable def m__law_web : Fx := fnD 2 0 b__law_web
noncomputable def b__law_order : Sx :=
  (sSeq (sSet 2 (eListRg (eV 1)))
    (sSeq (sSet 3 (eLstO aNil))
    (sSeq (sFor (iRange1 (eV 1)) (tgName 4) (sSeq (sExp (eApp (eV 3) (eBin gIx (eV 2) (eCall m__law_take (aCons (eV 0) (aCons (eUn opLen (eV 2)) aNil))))))
    (sSet 2 (eLc (iSeq (eV 2)) [5] (tgName 5) (tOf (eBin (g2 opNeA) (eV 5) (eBin gIx (eV 3) (eUn opNeg (eC (.int 1)))))) (eV 5)))))
    (sRet (eV 3)))))
noncomputable def m__law_order : Fx := fnD 2 4 b__law_order
noncomputable def b__law_sides : Sx :=
  (sSeq (sSet 1 (eBin gRepO (eLst (aCons (eC .non) aNil)) (eBin gIx (eV 0) (eC (.int 0)))))
    (sSeq (sFor (iRange1 (eBin gIx (eV 0) (eC (.int 0)))) (tgName 2) (sIf (tOf (eBin (g2 opIsN) (eBin gIx (eV 1) (eV 2)) (eC .non))) (sSeq (sPutL (eV 1) (eV 2) (eC (.int 0)))
    (sFor (iRange1 (eUn opLen (eBin gIx (eV 0) (eC (.int 1))))) (tgName 3) (sFor (iSeq (eBin gIx (eV 0) (eC (.int 1)))) (tgTup [4, 5]) (sSeq (sIf (tAndM (tOf (eBin (g2 opNotN) (eBin gIx (eV 1) (eV 4)) (eC .non))) (tOf (eBin (g2 opIsN) (eBin gIx (eV 1) (eV 5)) (eC .non)))) (sPutL (eV 1) (eV 5) (eBin (g2 opSub) (eC (.int 1)) (eBin gIx (eV 1) (eV 4)))) sNil)
    (sIf (tAndM (tOf (eBin (g2 opNotN) (eBin gIx (eV 1) (eV 5)) (eC .non))) (tOf (eBin (g2 opIsN) (eBin gIx (eV 1) (eV 4)) (eC .non)))) (sPutL (eV 1) (eV 4) (eBin (g2 opSub) (eC (.int 1)) (eBin gIx (eV 1) (eV 5)))) sNil))))) sNil))
    (sRet (eV 1))))
noncomputable def m__law_sides : Fx := fnD 1 5 b__law_sides
noncomputable def b__law_rows : Sx :=
  (sSeq (sSet 1 (eLst (aCons (eTup aNil) aNil)))
    (sSeq (sFor (iRange1 (eBin gIx (eV 0) (eC (.int 0)))) (tgName 2) (sSet 1 (eBin (g2 opAdd) (eV 1) (eLc (iSeq (eV 1)) [3] (tgName 3) tTrue (eBin (g2 opAdd) (eV 3) (eTup (aCons (eV 2) aNil)))))))
    (sRet (eV 1))))
noncomputable def m__law_rows : Fx := fnD 1 3 b__law_rows
noncomputable def b__law_sorted : Sx :=
  (sSeq (sFor (iRange1 (eUn opLen (eV 1))) (tgName 2) (sIf (tOrM (tNotM (tOf (eChain (g2 opLe) (g2 opLt) (eC (.int 0)) (eBin gIx (eV 1) (eV 2)) (eBin gIx (eV 0) (eC (.int 0)))))) (tAndM (tOf (eBin (g2 opGt) (eV 2) (eC (.int 0)))) (tOf (eBin (g2 opGe) (eBin gIx (eV 1) (eBin (g2 opSub) (eV 2) (eC (.int 1)))) (eBin gIx (eV 1) (eV 2)))))) (sRet (eC (.bl false))) sNil))
    (sRet (eC (.bl true))))
noncomputable def m__law_sorted : Fx := fnD 2 1 b__law_sorted
noncomputable def b__law_inside : Sx :=
  (sRet (eUn opLen (eLc (iSeq (eBin gIx (eV 0) (eC (.int 1)))) [2, 3] (tgTup [2, 3]) (tAndM (tOf (eBin (g2 opIn) (eV 2) (eV 1))) (tOf (eBin (g2 opIn) (eV 3) (eV 1)))) (eC (.int 1)))))
noncomputable def m__law_inside : Fx := fnD 2 2 b__law_inside
noncomputable def b__law_crowds : Sx :=
  (sSeq (sSet 1 (eBin (g2 opAdd) (eC (.int 1)) (eCall m__law_take (aCons (eV 0) (aCons (eC (.int 2)) aNil)))))
    (sSeq (sSet 2 (eBin (g2 opAdd) (eBin (g2 opMulA) (eC (.int 2)) (eV 1)) (eC (.int 1))))
    (sSeq (sSet 3 (eCall m__law_take (aCons (eV 0) (aCons (eC (.int 3)) aNil))))
    (sSeq (sSet 4 (eCall m__law_take (aCons (eV 0) (aCons (eC (.int 4)) aNil))))
    (sSeq (sSet 5 (eUn opTuple (eLc (iRange1 (eV 2)) [17] (tgName 17) tTrue (eBin (g2 opAdd) (eV 3) (eV 17)))))
    (sSeq (sSet 6 (eLst aNil))
    (sSeq (sFor (iRange1 (eV 2)) (tgName 7) (sSet 6 (eBin (g2 opAdd) (eV 6) (eLc (iRange2 (eBin (g2 opAdd) (eV 7) (eC (.int 1))) (eV 2)) [19] (tgName 19) tTrue (eTup (aCons (eBin gIx (eV 5) (eV 7)) (aCons (eBin gIx (eV 5) (eV 19)) aNil)))))))
    (sSeq (sSet 8 (eLc (iRange1 (eBin (g2 opMulA) (eV 4) (eV 1))) [17] (tgName 17) tTrue (eBin gIx (eV 6) (eCall m__law_take (aCons (eV 0) (aCons (eUn opLen (eV 6)) aNil))))))
    (sSeq (sSet 9 (eLc (iRange1 (eBin (g2 opAdd) (eV 3) (eV 2))) [18] (tgName 18) tTrue (eTup (aCons (eV 18) (aCons (eBin (g2 opAdd) (eV 3) (eV 2)) aNil)))))
    (sSeq (sSet 10 (eBin gIx (eV 6) (eCall m__law_take (aCons (eV 0) (aCons (eUn opLen (eV 6)) aNil)))))
    (sSeq (sSet 11 (eCall m__law_take (aCons (eV 0) (aCons (eV 2) aNil))))
    (sSeq (sFor (iSeq (eLst (aCons (eV 8) (aCons (eBin (g2 opAdd) (eV 8) (eLst (aCons (eV 10) aNil))) aNil)))) (tgName 12) (sSeq (sSet 13 (eTup (aCons (eBin (g2 opAdd) (eBin (g2 opAdd) (eV 3) (eV 2)) (eC (.int 1))) (aCons (eUn opTuple (eBin (g2 opAdd) (eV 9) (eV 12))) aNil))))
    (sSeq (sSet 14 (eLst (aCons (eV 5) (aCons (eSl (eV 5) oNone (oSome (eUn opNeg (eC (.int 1))))) (aCons (eUn opRev (eV 5)) (aCons (eBin (g2 opAdd) (eBin (g2 opAdd) (eSl (eV 5) oNone (oSome (eV 11))) (eTup (aCons (eBin gIx (eV 5) (eBin (g2 opSub) (eV 11) (eC (.int 1)))) aNil))) (eSl (eV 5) (oSome (eBin (g2 opAdd) (eV 11) (eC (.int 1)))) oNone)) (aCons (eBin (g2 opAdd) (eSl (eV 5) oNone (oSome (eC (.int 2)))) (eSl (eV 5) oNone (oSome (eC (.int 1))))) aNil)))))))
    (sSeq (sSet 14 (eBin (g2 opAdd) (eV 14) (eLst (aCons (eBin (g2 opAdd) (eBin (g2 opAdd) (eSl (eV 5) oNone (oSome (eV 11))) (eTup (aCons (eUn opNeg (eC (.int 1))) aNil))) (eSl (eV 5) (oSome (eBin (g2 opAdd) (eV 11) (eC (.int 1)))) oNone)) (aCons (eBin (g2 opAdd) (eSl (eV 5) oNone (oSome (eUn opNeg (eC (.int 1))))) (eTup (aCons (eBin (g2 opAdd) (eBin (g2 opAdd) (eV 3) (eV 2)) (eC (.int 1))) aNil))) (aCons (eBin (g2 opAdd) (eV 5) (eTup (aCons (eBin (g2 opAdd) (eV 3) (eV 2)) aNil))) aNil))))))
    (sSeq (sFor (iSeq (eBin (g2 opAdd) (eV 14) (eLst (aCons (eBin (g2 opAdd) (eV 5) (eV 5)) (aCons (eSl (eV 5) oNone (oSome (eC (.int 1)))) (aCons (eTup aNil) (aCons (eSl (eV 5) oNone (oSome (eUn opNeg (eC (.int 2))))) (aCons (eBin (g2 opAdd) (eSl (eV 5) (oSome (eC (.int 1))) oNone) (eTup (aCons (eBin (g2 opAdd) (eV 3) (eV 2)) aNil))) aNil)))))))) (tgName 15) (sSeq (sSet 16 (eAnd (eCall m__law_sorted (aCons (eV 13) (aCons (eV 15) aNil))) (eAnd (eBin (g2 opEqA) (eBin (g2 opMod) (eUn opLen (eV 15)) (eC (.int 2))) (eC (.int 1))) (eAnd (eBin (g2 opGt) (eUn opLen (eV 15)) (eC (.int 2))) (eBin (g2 opGt) (eCall m__law_inside (aCons (eV 13) (aCons (eV 15) aNil))) (eBin (g2 opMulA) (eV 4) (eBin (g2 opDiv) (eUn opLen (eV 15)) (eC (.int 2)))))))))
    (sIf (tNotM (tOf (eCall m__law_bool (aCons (eCall m_shows_crowd (aCons (eV 13) (aCons (eV 4) (aCons (eV 15) aNil)))) (aCons (eV 16) aNil))))) (sRet (eC (.bl false))) sNil)))
    (sIf (tNotM (tOf (eCall m__law_bool (aCons (eCall m_shows_crowd (aCons (eV 13) (aCons (eV 4) (aCons (eV 5) aNil)))) (aCons (eBin (g2 opGt) (eUn opLen (eV 12)) (eBin (g2 opMulA) (eV 4) (eV 1))) aNil))))) (sRet (eC (.bl false))) sNil))))))
    (sRet (eC (.bl true)))))))))))))))
noncomputable def m__law_crowds : Fx := fnD 1 19 b__law_crowds
noncomputable def b__law_busy : Sx :=
  (sSeq (sFor (iRange1 (eBin gIx (eV 0) (eC (.int 0)))) (tgName 1) (sSeq (sSet 2 (eUn opLen (eLc (iSeq (eBin gIx (eV 0) (eC (.int 1)))) [4] (tgName 4) (tOf (eBin (g2 opIn) (eV 1) (eV 4))) (eC (.int 1)))))
    (sFor (iRange1 (eBin (g2 opAdd) (eV 2) (eC (.int 2)))) (tgName 3) (sIf (tNotM (tOf (eCall m__law_bool (aCons (eCall m_shows_busy (aCons (eV 0) (aCons (eV 3) (aCons (eV 1) aNil)))) (aCons (eBin (g2 opLt) (eV 3) (eV 2)) aNil))))) (sRet (eC (.bl false))) sNil))))
    (sRet (eAnd (eCall m__law_bool (aCons (eCall m_shows_busy (aCons (eV 0) (aCons (eC (.int 0)) (aCons (eBin gIx (eV 0) (eC (.int 0))) aNil)))) (aCons (eC (.bl false)) aNil))) (eCall m__law_bool (aCons (eCall m_shows_busy (aCons (eV 0) (aCons (eC (.int 0)) (aCons (eUn opNeg (eC (.int 1))) aNil)))) (aCons (eC (.bl false)) aNil))))))
noncomputable def m__law_busy : Fx := fnD 1 4 b__law_busy
noncomputable def b__law_sides_judged : Sx :=
  (sSeq (sSet 2 (eBin (g2 opSub) (eBin gIx (eV 1) (eC (.int 0))) (eC (.int 1))))
    (sSeq (sSet 3 (eUn opTuple (eCall m__law_sides (aCons (eV 1) aNil))))
    (sSeq (sSet 5 (eLstO (aCons (eV 3) (aCons (eSl (eV 3) (oSome (eC (.int 1))) oNone) (aCons (eBin (g2 opAdd) (eV 3) (eTup (aCons (eC (.int 0)) aNil))) (aCons (eUn opTuple (eLc (iSeq (eV 3)) [4] (tgName 4) tTrue (eBin (g2 opSub) (eC (.int 1)) (eV 4)))) (aCons (eUn opTuple (eLc (iSeq (eV 3)) [4] (tgName 4) tTrue (eCall m__law_take (aCons (eV 0) (aCons (eC (.int 2)) aNil))))) aNil)))))))
    (sSeq (sFor (iSeq (eLst (aCons (eUn opNeg (eC (.int 1))) (aCons (eC (.int 1)) (aCons (eC (.int 2)) aNil))))) (tgName 4) (sExp (eApp (eV 5) (eBin (g2 opAdd) (eSl (eV 3) oNone (oSome (eV 2))) (eTup (aCons (eV 4) aNil))))))
    (sSeq (sFor (iRange1 (eV 2)) (tgName 6) (sExp (eApp (eV 5) (eBin (g2 opAdd) (eBin (g2 opAdd) (eSl (eV 3) oNone (oSome (eV 6))) (eTup (aCons (eBin (g2 opSub) (eC (.int 1)) (eBin gIx (eV 3) (eV 6))) aNil))) (eSl (eV 3) (oSome (eBin (g2 opAdd) (eV 6) (eC (.int 1)))) oNone)))))
    (sSeq (sFor (iSeq (eV 5)) (tgName 7) (sSeq (sSet 8 (eAnd (eBin (g2 opEqA) (eUn opLen (eV 7)) (eBin gIx (eV 1) (eC (.int 0)))) (eBin (g2 opEqA) (eUn opLen (eLc (iSeq (eV 7)) [4] (tgName 4) (tOf (eBin (g2 opNotIn) (eV 4) (eLst (aCons (eC (.int 0)) (aCons (eC (.int 1)) aNil))))) (eC (.int 1)))) (eC (.int 0)))))
    (sSeq (sSet 8 (eAnd (eV 8) (eBin (g2 opEqA) (eUn opLen (eLc (iSeq (eBin gIx (eV 1) (eC (.int 1)))) [9, 10] (tgTup [9, 10]) (tOf (eBin (g2 opEqA) (eBin gIx (eV 7) (eV 9)) (eBin gIx (eV 7) (eV 10)))) (eC (.int 1)))) (eC (.int 0)))))
    (sIf (tNotM (tOf (eCall m__law_bool (aCons (eCall m_shows_sides (aCons (eV 1) (aCons (eV 7) aNil))) (aCons (eV 8) aNil))))) (sRet (eC (.bl false))) sNil))))
    (sRet (eC (.bl true)))))))))
noncomputable def m__law_sides_judged : Fx := fnD 2 9 b__law_sides_judged
noncomputable def b__law_ring : Sx :=
  (sSeq (sIf (tOrM (tOf (eBin (g2 opLt) (eUn opLen (eV 1)) (eC (.int 3)))) (tOf (eBin (g2 opEqA) (eBin (g2 opMod) (eUn opLen (eV 1)) (eC (.int 2))) (eC (.int 0))))) (sRet (eC (.bl false))) sNil)
    (sSeq (sFor (iRange1 (eUn opLen (eV 1))) (tgName 2) (sIf (tOf (eBin (g2 opEqA) (eUn opLen (eLc (iSeq (eBin gIx (eV 0) (eC (.int 1)))) [3, 4] (tgTup [3, 4]) (tAndM (tOf (eBin (g2 opIn) (eBin gIx (eV 1) (eBin (g2 opSub) (eV 2) (eC (.int 1)))) (eTup (aCons (eV 3) (aCons (eV 4) aNil))))) (tAndM (tOf (eBin (g2 opIn) (eBin gIx (eV 1) (eV 2)) (eTup (aCons (eV 3) (aCons (eV 4) aNil))))) (tOf (eBin (g2 opNeA) (eBin gIx (eV 1) (eBin (g2 opSub) (eV 2) (eC (.int 1)))) (eBin gIx (eV 1) (eV 2)))))) (eC (.int 1)))) (eC (.int 0)))) (sRet (eC (.bl false))) sNil))
    (sRet (eC (.bl true)))))
noncomputable def m__law_ring : Fx := fnD 2 3 b__law_ring
noncomputable def b__law_rings : Sx :=
  (sSeq (sSet 1 (eBin (g2 opAdd) (eC (.int 3)) (eCall m__law_take (aCons (eV 0) (aCons (eC (.int 6)) aNil)))))
    (sSeq (sSet 2 (eCall m__law_order (aCons (eV 0) (aCons (eV 1) aNil))))
    (sSeq (sSet 3 (eTup (aCons (eV 1) (aCons (eUn opTuple (eLc (iRange1 (eV 1)) [8] (tgName 8) tTrue (eTup (aCons (eBi opMin2 (eBin gIx (eV 2) (eBin (g2 opSub) (eV 8) (eC (.int 1)))) (eBin gIx (eV 2) (eV 8))) (aCons (eBi opMax2 (eBin gIx (eV 2) (eBin (g2 opSub) (eV 8) (eC (.int 1)))) (eBin gIx (eV 2) (eV 8))) aNil))))) aNil))))
    (sSeq (sSet 4 (eCall m__law_take (aCons (eV 0) (aCons (eV 1) aNil))))
    (sSeq (sSet 5 (eBin (g2 opAdd) (eSl (eV 2) (oSome (eV 4)) oNone) (eSl (eV 2) oNone (oSome (eV 4)))))
    (sSeq (sSet 6 (eLst (aCons (eV 2) (aCons (eV 5) (aCons (eUn opRev (eV 2)) (aCons (eSl (eV 2) oNone (oSome (eUn opNeg (eC (.int 1))))) (aCons (eBin (g2 opAdd) (eV 2) (eSl (eV 2) oNone (oSome (eC (.int 1))))) (aCons (eBin (g2 opAdd) (eV 2) (eV 2)) (aCons (eBin (g2 opAdd) (eBin (g2 opAdd) (eV 2) (eV 2)) (eV 2)) (aCons (eLst aNil) (aCons (eSl (eV 2) oNone (oSome (eC (.int 1)))) aNil)))))))))))
    (sSeq (sSet 6 (eBin (g2 opAdd) (eV 6) (eLst (aCons (eBin (g2 opAdd) (eV 2) (eLst (aCons (eBin gIx (eV 2) (eC (.int 0))) (aCons (eBin gIx (eV 2) (eC (.int 1))) aNil)))) (aCons (eLst (aCons (eBin gIx (eV 2) (eC (.int 0))) (aCons (eBin gIx (eV 2) (eC (.int 1))) (aCons (eBin gIx (eV 2) (eC (.int 0))) aNil)))) (aCons (eBin (g2 opAdd) (eV 2) (eLst (aCons (eBin gIx (eV 2) (eUn opNeg (eC (.int 1)))) (aCons (eBin gIx (eV 2) (eC (.int 0))) aNil)))) (aCons (eBin (g2 opMulA) (eSl (eV 2) oNone (oSome (eC (.int 1)))) (eC (.int 3))) aNil)))))))
    (sSeq (sSet 6 (eBin (g2 opAdd) (eV 6) (eLst (aCons (eBin (g2 opAdd) (eBin (g2 opAdd) (eSl (eV 5) oNone (oSome (eC (.int 1)))) (eLst (aCons (eV 1) aNil))) (eSl (eV 5) (oSome (eC (.int 2))) oNone)) (aCons (eBin (g2 opAdd) (eLst (aCons (eUn opNeg (eC (.int 1))) aNil)) (eSl (eV 5) (oSome (eC (.int 1))) oNone)) (aCons (eBin (g2 opAdd) (eSl (eV 5) oNone (oSome (eC (.int 2)))) (eSl (eV 5) (oSome (eC (.int 1))) oNone)) (aCons (eBin (g2 opAdd) (eLst (aCons (eBin gIx (eV 5) (eC (.int 1))) (aCons (eBin gIx (eV 5) (eC (.int 0))) aNil))) (eSl (eV 5) (oSome (eC (.int 2))) oNone)) aNil)))))))
    (sSeq (sFor (iSeq (eV 6)) (tgName 7) (sIf (tNotM (tOf (eCall m__law_bool (aCons (eCall m_shows_ring (aCons (eV 3) (aCons (eUn opList (eV 7)) aNil))) (aCons (eCall m__law_ring (aCons (eV 3) (aCons (eV 7) aNil))) aNil))))) (sRet (eC (.bl false))) sNil))
    (sRet (eCall m__law_bool (aCons (eCall m_shows_ring (aCons (eV 3) (aCons (eUn opList (eV 5)) aNil))) (aCons (eBin (g2 opEqA) (eBin (g2 opMod) (eV 1) (eC (.int 2))) (eC (.int 1))) aNil)))))))))))))
noncomputable def m__law_rings : Fx := fnD 1 8 b__law_rings
noncomputable def b__law_odd : Sx :=
  (sSeq (sSet 3 (eLc (iRange1 (eBin gIx (eV 0) (eC (.int 0)))) [2] (tgName 2) (tOf (eBin (g2 opNotIn) (eV 2) (eV 1))) (eV 2)))
    (sSeq (sSet 4 eDicO)
    (sSeq (sFor (iSeq (eV 3)) (tgName 2) (sPutD (eV 4) (eV 2) (eV 2)))
    (sSeq (sFor (iRange1 (eUn opLen (eV 3))) (tgName 5) (sFor (iSeq (eBin gIx (eV 0) (eC (.int 1)))) (tgTup [6, 7]) (sIf (tAndM (tOf (eInD (eV 6) (eV 4))) (tOf (eInD (eV 7) (eV 4)))) (sSeq (sSet 8 (eBi opMin2 (eGetD (eV 4) (eV 6)) (eGetD (eV 4) (eV 7))))
    (sSeq (sPutD (eV 4) (eV 6) (eV 8))
    (sPutD (eV 4) (eV 7) (eV 8)))) sNil)))
    (sSeq (sSet 9 (eLc (iSeq (eV 3)) [10] (tgName 10) tTrue (eUn opLen (eLc (iSeq (eV 3)) [2] (tgName 2) (tOf (eBin (g2 opEqA) (eGetD (eV 4) (eV 2)) (eV 10))) (eC (.int 1))))))
    (sRet (eUn opLen (eLc (iSeq (eV 9)) [11] (tgName 11) (tOf (eBin (g2 opEqA) (eBin (g2 opMod) (eV 11) (eC (.int 2))) (eC (.int 1)))) (eC (.int 1))))))))))
noncomputable def m__law_odd : Fx := fnD 2 10 b__law_odd
noncomputable def b__law_people : Sx :=
  (sSeq (sSet 2 (eCall m__law_rows (aCons (eV 1) aNil)))
    (sSeq (sFor (iRange1 (eC (.int 6))) (tgName 3) (sSeq (sSet 4 (eBin gIx (eV 2) (eCall m__law_take (aCons (eV 0) (aCons (eUn opLen (eV 2)) aNil)))))
    (sFor (iSeq (eLst (aCons (eV 4) (aCons (eBin (g2 opAdd) (eV 4) (eSl (eV 4) oNone (oSome (eC (.int 1))))) (aCons (eUn opRev (eV 4)) (aCons (eBin (g2 opAdd) (eV 4) (eTup (aCons (eBin gIx (eV 1) (eC (.int 0))) aNil))) (aCons (eBin (g2 opAdd) (eTup (aCons (eUn opNeg (eC (.int 1))) aNil)) (eV 4)) (aCons (eSl (eV 4) (oSome (eC (.int 1))) oNone) aNil)))))))) (tgName 5) (sSeq (sSet 6 (eCall m__law_sorted (aCons (eV 1) (aCons (eV 5) aNil))))
    (sSeq (sSet 7 (eBin (g2 opEqA) (eUn opLen (eLc (iSeq (eBin gIx (eV 1) (eC (.int 1)))) [10, 11] (tgTup [10, 11]) (tAndM (tOf (eBin (g2 opNotIn) (eV 10) (eV 5))) (tOf (eBin (g2 opNotIn) (eV 11) (eV 5)))) (eC (.int 1)))) (eC (.int 0))))
    (sSeq (sIf (tNotM (tOf (eCall m__law_bool (aCons (eCall m_shows_watch (aCons (eV 1) (aCons (eV 5) aNil))) (aCons (eAnd (eV 6) (eV 7)) aNil))))) (sRet (eC (.bl false))) sNil)
    (sSeq (sSet 8 (eBin (g2 opDiv) (eBin (g2 opSub) (eBin (g2 opAdd) (eBin gIx (eV 1) (eC (.int 0))) (eUn opLen (eV 5))) (eCall m__law_odd (aCons (eV 1) (aCons (eV 5) aNil)))) (eC (.int 2))))
    (sFor (iSeq (eLst (aCons (eBin (g2 opSub) (eV 8) (eC (.int 1))) (aCons (eV 8) (aCons (eBin (g2 opAdd) (eV 8) (eC (.int 1))) aNil))))) (tgName 9) (sIf (tNotM (tOf (eCall m__law_bool (aCons (eCall m_shows_bar (aCons (eV 1) (aCons (eV 9) (aCons (eV 5) aNil)))) (aCons (eAnd (eV 6) (eBin (g2 opLe) (eV 8) (eV 9))) aNil))))) (sRet (eC (.bl false))) sNil)))))))))
    (sRet (eC (.bl true)))))
noncomputable def m__law_people : Fx := fnD 2 10 b__law_people
noncomputable def b__law_shares : Sx :=
  (sSeq (sAsg (eCall m__law_sided (aCons (eV 0) (aCons (eC (.int 3)) (aCons (eC (.int 7)) aNil)))) (tgTup [1, 2]))
    (sSeq (sSet 3 (eTup (aCons (eBin (g2 opAdd) (eV 1) (eC (.int 1))) (aCons (eV 2) aNil))))
    (sSeq (sSet 5 (eUn opTuple (eBin (g2 opAdd) (eLc (iRange1 (eV 1)) [4] (tgName 4) tTrue (eCall m__law_take (aCons (eV 0) (aCons (eC (.int 30)) aNil)))) (eLst (aCons (eC (.int 0)) aNil)))))
    (sSeq (sSet 6 (eUn opTuple (eLc (iSeq (eV 2)) [12, 13] (tgTup [12, 13]) tTrue (eBin (g2 opAdd) (eBin gIx (eV 5) (eV 12)) (eBin gIx (eV 5) (eV 13))))))
    (sSeq (sSet 7 (eUn opSum (eV 5)))
    (sSeq (sSet 8 (eLst (aCons (eV 5) (aCons (eSl (eV 5) (oSome (eC (.int 1))) oNone) (aCons (eBin (g2 opAdd) (eV 5) (eTup (aCons (eC (.int 0)) aNil))) (aCons (eBin (g2 opAdd) (eSl (eV 5) oNone (oSome (eV 1))) (eTup (aCons (eUn opNeg (eC (.int 1))) aNil))) (aCons (eBin (g2 opAdd) (eSl (eV 5) oNone (oSome (eV 1))) (eTup (aCons (eC (.int 1)) aNil))) (aCons (eUn opTuple (eBin (g2 opMulA) (eLst (aCons (eC (.int 0)) aNil)) (eBin (g2 opAdd) (eV 1) (eC (.int 1))))) aNil))))))))
    (sSeq (sFor (iRange1 (eV 1)) (tgName 4) (sSet 8 (eBin (g2 opAdd) (eV 8) (eLst (aCons (eBin (g2 opAdd) (eBin (g2 opAdd) (eSl (eV 5) oNone (oSome (eV 4))) (eTup (aCons (eBin (g2 opSub) (eBin gIx (eV 5) (eV 4)) (eC (.int 1))) aNil))) (eSl (eV 5) (oSome (eBin (g2 opAdd) (eV 4) (eC (.int 1)))) oNone)) (aCons (eBin (g2 opAdd) (eBin (g2 opAdd) (eBin (g2 opAdd) (eSl (eV 5) oNone (oSome (eV 4))) (eTup (aCons (eBin (g2 opAdd) (eBin gIx (eV 5) (eV 4)) (eC (.int 1))) aNil))) (eSl (eV 5) (oSome (eBin (g2 opAdd) (eV 4) (eC (.int 1)))) (oSome (eV 1)))) (eTup (aCons (eUn opNeg (eC (.int 1))) aNil))) aNil))))))
    (sSeq (sFor (iSeq (eV 8)) (tgName 9) (sFor (iSeq (eLst (aCons (eBin (g2 opSub) (eV 7) (eC (.int 1))) (aCons (eV 7) (aCons (eBin (g2 opAdd) (eV 7) (eC (.int 1))) aNil))))) (tgName 10) (sSeq (sSet 11 (eAnd (eBin (g2 opEqA) (eUn opLen (eV 9)) (eBin (g2 opAdd) (eV 1) (eC (.int 1)))) (eAnd (eBin (g2 opEqA) (eUn opLen (eLc (iSeq (eV 9)) [14] (tgName 14) (tOf (eBin (g2 opLt) (eV 14) (eC (.int 0)))) (eC (.int 1)))) (eC (.int 0))) (eBin (g2 opLe) (eUn opSum (eV 9)) (eV 10)))))
    (sSeq (sSet 11 (eAnd (eV 11) (eBin (g2 opEqA) (eUn opLen (eLc (iRange1 (eUn opLen (eV 2))) [15] (tgName 15) (tOf (eBin (g2 opLt) (eBin (g2 opAdd) (eBin gIx (eV 9) (eBin gIx (eBin gIx (eV 2) (eV 15)) (eC (.int 0)))) (eBin gIx (eV 9) (eBin gIx (eBin gIx (eV 2) (eV 15)) (eC (.int 1))))) (eBin gIx (eV 6) (eV 15)))) (eC (.int 1)))) (eC (.int 0)))))
    (sIf (tNotM (tOf (eCall m__law_bool (aCons (eCall m_shows_shares (aCons (eV 3) (aCons (eV 6) (aCons (eV 10) (aCons (eV 9) aNil))))) (aCons (eV 11) aNil))))) (sRet (eC (.bl false))) sNil)))))
    (sRet (eAnd (eCall m__law_bool (aCons (eCall m_shows_shares (aCons (eV 3) (aCons (eV 6) (aCons (eV 7) (aCons (eV 5) aNil))))) (aCons (eC (.bl true)) aNil))) (eCall m__law_bool (aCons (eCall m_shows_shares (aCons (eV 3) (aCons (eV 6) (aCons (eBin (g2 opSub) (eV 7) (eC (.int 1))) (aCons (eV 5) aNil))))) (aCons (eC (.bl false)) aNil)))))))))))))
noncomputable def m__law_shares : Fx := fnD 1 15 b__law_shares
noncomputable def b_law : Sx :=
  (sSeq (sSet 1 (eCall m__law_deal (aCons (eV 0) aNil)))
    (sSeq (sSet 2 (eCall m__law_web (aCons (eV 1) (aCons (eC (.int 7)) aNil))))
    (sSeq (sSet 2 (eTup (aCons (eBin (g2 opAdd) (eBin gIx (eV 2) (eC (.int 0))) (eC (.int 1))) (aCons (eBin gIx (eV 2) (eC (.int 1))) aNil))))
    (sSeq (sIf (tOrM (tNotM (tOf (eCall m__law_busy (aCons (eV 2) aNil)))) (tOrM (tNotM (tOf (eCall m__law_sides_judged (aCons (eV 1) (aCons (eV 2) aNil))))) (tNotM (tOf (eCall m__law_people (aCons (eV 1) (aCons (eV 2) aNil))))))) (sRet (eC (.bl false))) sNil)
    (sRet (eAnd (eCall m__law_crowds (aCons (eV 1) aNil)) (eAnd (eCall m__law_rings (aCons (eV 1) aNil)) (eCall m__law_shares (aCons (eV 1) aNil)))))))))
noncomputable def m_law : Fx := fnD 1 2 b_law
end Lw
namespace PL
open PySem PySem.Spec L2
set_option autoImplicit false
theorem look_d (m : Store) (x : D) : look m (.d x) = some x := rfl
theorem frzE_d (m : Store) (x : D) : frzE m (.d x) = some (x, m) := rfl
theorem opAdd_i (a b : Int) : opAdd (.int a) (.int b) = some (.int (a + b)) := rfl
theorem opI_i (f : Int → Int → Option D) (a b : Int) : opI f (.int a) (.int b) = f a b := rfl
theorem opMulA_l (a b : Int) (h : -(2 ^ 64) < a ∧ a < 2 ^ 64) : opMulA (.int a) (.int b) = some (.int (a * b)) := if_pos (okP_true (.inl h))
theorem opMulA_r (a b : Int) (h : -(2 ^ 64) < b ∧ b < 2 ^ 64) : opMulA (.int a) (.int b) = some (.int (a * b)) := if_pos (okP_true (.inr h))
theorem opEqA_i (a b : Int) : opEqA (.int a) (.int b) = some (.bl (decide (a = b))) := rfl
theorem opNeA_i (a b : Int) : opNeA (.int a) (.int b) = some (.bl (!decide (a = b))) := rfl
theorem opEqA_b (a b : Bool) : opEqA (.bl a) (.bl b) = some (.bl (decide (a = b))) := rfl
theorem opLen_l (xs : List D) : opLen (.lst xs) = some (.int xs.length) := rfl
theorem opLen_t (xs : List D) : opLen (.tup xs) = some (.int xs.length) := rfl
theorem opLen_s (xs : List Int) : opLen (.scr xs) = some (.int xs.length) := rfl
theorem opLen_d (xs : List (Key × D)) : opLen (.dic xs) = some (.int xs.length) := rfl
theorem gIx_d (x : D) (y : E) (m : Store) : gIx (.d x) y m = g2 opIx (.d x) y m := rfl
theorem gIx_own (c : Nat) (y : E) (m : Store) : gIx (.own c) y m = g2 opIx (.own c) y m := rfl
theorem gIx_deal (row : List Int) (c : Nat) (t : Int) (y : E) (m : Store) : gIx (.deal row c t) y m = (intOf m y).bind fun i => (dealAt row c t i).bind fun e => some (e, m) := rfl
theorem intOf_d (m : Store) (i : Int) : intOf m (.d (.int i)) = some i := rfl
theorem tOf_eq (f : Ex) (ρ : Rho) (m : Store) : tOf f ρ m = (f ρ m).bind fun p => match p.1 with | .d (.bl b) => some (b, p.2) | _ => none := by
  unfold tOf
  cases f ρ m with
  | none => rfl
  | some p =>
    obtain ⟨e, m'⟩ := p
    cases e with
    | d x => cases x <;> rfl
    | _ => rfl
theorem itemsOf_l (xs : List D) : itemsOf (.lst xs) = some xs := rfl
theorem itemsOf_t (xs : List D) : itemsOf (.tup xs) = some xs := rfl
theorem opTuple_l (xs : List D) : opTuple (.lst xs) = some (.tup xs) := rfl
theorem opTuple_t (xs : List D) : opTuple (.tup xs) = some (.tup xs) := rfl
theorem opList_l (xs : List D) : opList (.lst xs) = some (.lst xs) := rfl
theorem opList_t (xs : List D) : opList (.tup xs) = some (.lst xs) := rfl
theorem rangeE_zero (n : Nat) : rangeE 0 n = (List.range n).map fun (i : Nat) => D.int (i : Int) := by
  unfold rangeE
  exact List.map_congr_left fun i _ => by rw [Int.zero_add]
theorem iRange1_eq {f : Ex} {ρ : Rho} {m m' : Store} {e : E} {n : Int} (h : f ρ m = some (e, m')) (hi : intOf m' e = some n) (h1 : -1000000 ≤ n) (h2 : n ≤ 1000000) : iRange1 f ρ m = some ((List.range n.toNat).map fun (i : Nat) => D.int (i : Int), m') := by
  unfold iRange1
  rw [h, ← rangeE_zero]
  show (intOf m' e).bind _ = _
  rw [hi]
  show (if okP (-(big : Int) ≤ n ∧ n ≤ (big : Int)) = true then _ else _) = _
  have hb : (big : Int) = 1000000 := rfl
  rw [if_pos (okP_true ⟨by omega, by omega⟩)]
theorem iSeq_eq {f : Ex} {ρ : Rho} {m m' : Store} {d : D} {xs : List D} (h : f ρ m = some (.d d, m')) (hi : itemsOf d = some xs) : iSeq f ρ m = some (xs, m') := by
  unfold iSeq
  rw [h, Option.bind_some]
  show (itemsOf d).bind _ = _
  rw [hi]
  rfl
theorem lcLoop_map {α : Type} {g : Tg} {tt : Tx} {te : Ex} {ρ : Rho} {m : Store} (k : α → D) (c : α → Bool) (f : α → D) : ∀ (ys : List α), (∀ y ∈ ys, ∃ ρ1, g (.d (k y)) ρ = some ρ1 ∧ tt ρ1 m = some (c y, m) ∧ (c y = true → te ρ1 m = some (.d (f y), m))) →
    lcLoop g tt te ρ (ys.map k) m = some ((ys.filter c).map f, m)
  | [], _ => rfl
  | y :: ys, h => by
    obtain ⟨ρ1, h1, h2, h3⟩ := h y List.mem_cons_self
    have ih := lcLoop_map k c f ys fun z hz => h z (List.mem_cons_of_mem _ hz)
    rw [List.map_cons]
    show (g (.d (k y)) ρ).bind _ = _
    rw [h1]
    show (tt ρ1 m).bind _ = _
    rw [h2]
    cases q : c y with
    | true =>
      show (te ρ1 m).bind _ = _
      rw [h3 q, List.filter_cons, q]
      show (lcLoop g tt te ρ (ys.map k) m).bind _ = _
      rw [ih]
      rfl
    | false =>
      show lcLoop g tt te ρ (ys.map k) m = _
      rw [ih, List.filter_cons, q]
      rfl
theorem eLc_map {α : Type} {it : Ix} {vs : List Nat} {g : Tg} {tt : Tx} {te : Ex} {ρ : Rho} {m : Store} {ys : List α} {k : α → D} (c : α → Bool) (f : α → D) (hit : it ρ m = some (ys.map k, m)) (hl : ys.length ≤ 1000000)
    (h : ∀ y ∈ ys, ∃ ρ1, g (.d (k y)) (wipeE ρ vs) = some ρ1 ∧ tt ρ1 m = some (c y, m) ∧ (c y = true → te ρ1 m = some (.d (f y), m))) : eLc it vs g tt te ρ m = some (.d (.lst ((ys.filter c).map f)), m) := by
  unfold eLc
  rw [hit]
  show (lcLoop g tt te (wipeE ρ vs) (ys.map k) m).bind _ = _
  rw [lcLoop_map k c f ys h]
  show (if ((ys.filter c).map f).length ≤ big then _ else _) = _
  rw [if_pos]
  have := List.length_filter_le c ys
  rw [List.length_map]
  exact Nat.le_trans this hl
theorem eLc_all {α : Type} {it : Ix} {vs : List Nat} {g : Tg} {te : Ex} {ρ : Rho} {m : Store} {ys : List α} {k : α → D} (f : α → D) (hit : it ρ m = some (ys.map k, m)) (hl : ys.length ≤ 1000000)
    (h : ∀ y ∈ ys, ∃ ρ1, g (.d (k y)) (wipeE ρ vs) = some ρ1 ∧ te ρ1 m = some (.d (f y), m)) : eLc it vs g tTrue te ρ m = some (.d (.lst (ys.map f)), m) := by
  have := eLc_map (tt := tTrue) (fun _ => true) f hit hl fun y hy => by
    obtain ⟨ρ1, h1, h2⟩ := h y hy
    exact ⟨ρ1, h1, rfl, fun _ => h2⟩
  rw [this, List.filter_eq_self.mpr fun _ _ => rfl]
theorem forL_step {tg : Tg} {body : Sx} {x : D} {xs : List D} {ρ ρ1 : Rho} {m : Store} {r : Fl × Rho × Store} (h1 : tg (.d x) ρ = some ρ1) (h2 : body ρ1 m = some r) : forL tg body (x :: xs) ρ m = match r.1 with
    | .nx => forL tg body xs r.2.1 r.2.2
    | .ct => forL tg body xs r.2.1 r.2.2
    | .bk => some (.nx, r.2.1, r.2.2)
    | .rt e => some (.rt e, r.2.1, r.2.2) := by
  show (tg (.d x) ρ).bind _ = _
  rw [h1]
  show (body ρ1 m).bind _ = _
  rw [h2]
  rfl
theorem forL_search {α : Type} {tg : Tg} {body : Sx} {k : α → D} (bad : α → Prop) (R : Rho → Prop) (e : E) {m : Store} : ∀ (ys : List α) (ρ : Rho), R ρ →
    (∀ y ∈ ys, ∀ ρ, R ρ → ∃ ρ1, tg (.d (k y)) ρ = some ρ1 ∧ ((bad y ∧ ∃ ρ2, body ρ1 m = some (.rt e, ρ2, m)) ∨ (¬ bad y ∧ ∃ ρ2, R ρ2 ∧ body ρ1 m = some (.nx, ρ2, m)))) →
    ((∀ y ∈ ys, ¬ bad y) ∧ ∃ ρ2, R ρ2 ∧ forL tg body (ys.map k) ρ m = some (.nx, ρ2, m)) ∨ ((∃ y ∈ ys, bad y) ∧ ∃ ρ2, forL tg body (ys.map k) ρ m = some (.rt e, ρ2, m))
  | [], ρ, h, _ => .inl ⟨fun y hy => (nomatch hy), ρ, h, rfl⟩
  | y :: ys, ρ, h, step => by
    obtain ⟨ρ1, h1, h2⟩ := step y List.mem_cons_self ρ h
    rcases h2 with ⟨hb, ρ2, h3⟩ | ⟨hb, ρ2, hR, h3⟩
    · exact .inr ⟨⟨y, List.mem_cons_self, hb⟩, ρ2, by rw [List.map_cons, forL_step h1 h3]⟩
    · rcases forL_search bad R e ys ρ2 hR fun z hz => step z (List.mem_cons_of_mem _ hz) with ⟨g1, ρ3, g2, g3⟩ | ⟨⟨z, hz, g1⟩, ρ3, g3⟩
      · exact .inl ⟨fun z hz => by rcases List.mem_cons.mp hz with rfl | hz; exact hb; exact g1 z hz, ρ3, g2, by rw [List.map_cons, forL_step h1 h3]; exact g3⟩
      · exact .inr ⟨⟨z, List.mem_cons_of_mem _ hz, g1⟩, ρ3, by rw [List.map_cons, forL_step h1 h3]; exact g3⟩

theorem forL_srch {α : Type} {tg : Tg} {body : Sx} {k : α → D} {ys : List α} {ρ : Rho} {m : Store} {x : Option (Fl × Rho × Store)} (bad : α → Prop) (R : Rho → Prop) (e : E) (hx : forL tg body (ys.map k) ρ m = x) (h0 : R ρ)
    (step : ∀ y ∈ ys, ∀ ρ, R ρ → ∃ ρ1, tg (.d (k y)) ρ = some ρ1 ∧ ((bad y ∧ ∃ ρ2, body ρ1 m = some (.rt e, ρ2, m)) ∨ (¬ bad y ∧ ∃ ρ2, R ρ2 ∧ body ρ1 m = some (.nx, ρ2, m)))) :
    ((∀ y ∈ ys, ¬ bad y) ∧ ∃ ρ2, R ρ2 ∧ x = some (.nx, ρ2, m)) ∨ ((∃ y ∈ ys, bad y) ∧ ∃ ρ2, x = some (.rt e, ρ2, m)) := by
  rw [← hx]
  exact forL_search bad R e ys ρ h0 step
def pairD (p : Int × Int) : D := .tup [.int p.1, .int p.2]
def webD (n : Int) (ms : List (Int × Int)) : D := .tup [.int n, .tup (ms.map pairD)]
abbrev Ms := List (Int × Int)
def pr (ms : Ms) (i : Nat) : Int × Int := ms.getD i (0, 0)
theorem opIx_web0 (n : Int) (ms : Ms) : opIx (webD n ms) (.int 0) = some (.int n) := rfl
theorem opIx_web1 (n : Int) (ms : Ms) : opIx (webD n ms) (.int 1) = some (.tup (ms.map pairD)) := rfl
theorem atI_map' {α β : Type} (f : α → β) (xs : List α) (d : α) (i : Int) (h0 : 0 ≤ i) (h : i < xs.length) : atI (xs.map f) i = some (f (xs.getD i.toNat d)) := by
  obtain ⟨j, rfl⟩ : ∃ j : Nat, i = j := ⟨i.toNat, by omega⟩
  have hj : j < xs.length := by omega
  rw [atI_nat (j := j) (v := f (xs.getD j d)) (by rw [List.getElem?_map, List.getElem?_eq_getElem hj, List.getD_eq_getElem?_getD, List.getElem?_eq_getElem hj]; rfl)]
  rfl
theorem opIx_ms (ms : Ms) (i : Int) (h0 : 0 ≤ i) (h : i < ms.length) : opIx (.tup (ms.map pairD)) (.int i) = some (pairD (pr ms i.toNat)) := atI_map' pairD ms (0, 0) i h0 h
theorem opIx_li (xs : List Int) (i : Int) (h0 : 0 ≤ i) (h : i < xs.length) : opIx (.lst (xs.map .int)) (.int i) = some (.int (xs.getD i.toNat 0)) := atI_map' D.int xs 0 i h0 h
theorem opIx_ti (xs : List Int) (i : Int) (h0 : 0 ≤ i) (h : i < xs.length) : opIx (.tup (xs.map .int)) (.int i) = some (.int (xs.getD i.toNat 0)) := atI_map' D.int xs 0 i h0 h
theorem inD_pair (p : Int) (q : Int × Int) : inD (.int p) (pairD q) = some (decide (p = q.1 ∨ p = q.2)) := by
  unfold inD pairD
  show (match py (.int p), py (.tup [.int q.1, .int q.2]) with | some _, some _ => if depD (.int p) ≤ 64 ∧ depD (.tup [.int q.1, .int q.2]) ≤ 64 then some (decide (D.int p ∈ [D.int q.1, D.int q.2])) else none | _, _ => none) = _
  simp [py, pys, depD, depDs]
theorem tgTup_pair (i j : Nat) (p : Int × Int) (ρ : Rho) : tgTup [i, j] (.d (pairD p)) ρ = some ((ρ.set i (some (.d (.int p.1)))).set j (some (.d (.int p.2)))) := rfl
theorem opIn_pair (p : Int) (q : Int × Int) : opIn (.int p) (pairD q) = some (.bl (decide (p = q.1 ∨ p = q.2))) := by unfold opIn; rw [inD_pair]; rfl
theorem opNotIn_pair (p : Int) (q : Int × Int) : opNotIn (.int p) (pairD q) = some (.bl (!decide (p = q.1 ∨ p = q.2))) := by unfold opNotIn; rw [inD_pair]; rfl
theorem fnD_eq (n k : Nat) (body : Sx) (es : List E) (m : Store) (h : es.length = n) : fnD n k body es m = (body (es.map some ++ List.replicate k none) m).bind fun r => match r.1 with
  | .rt e => fin m.length r.2.2 e
  | .nx => some (.d .non, r.2.2.take m.length)
  | _ => none := if_pos h
theorem fin_d (m : Store) (x : D) : fin m.length m (.d x) = some (.d x, m) := by
  show some (E.d x, m.take m.length) = _
  rw [List.take_length]
noncomputable def tr (p : Prop) : Bool := @decide p (Classical.propDecidable p)
theorem tr_true {p : Prop} (h : p) : tr p = true := by unfold tr; exact @decide_eq_true p (Classical.propDecidable p) h
theorem tr_false {p : Prop} (h : ¬ p) : tr p = false := by unfold tr; exact @decide_eq_false p (Classical.propDecidable p) h
theorem tr_iff {p : Prop} : tr p = true ↔ p := ⟨fun h => Classical.byContradiction fun z => by
  rw [tr_false z] at h
  exact Bool.noConfusion h, tr_true⟩
theorem tr_congr {p q : Prop} (h : p ↔ q) : tr p = tr q := by
  by_cases z : p
  · rw [tr_true z, tr_true (h.mp z)]
  · rw [tr_false z, tr_false fun w => z (h.mpr w)]
theorem decide_tr {p : Prop} [i : Decidable p] : decide p = tr p := by
  by_cases z : p
  · rw [tr_true z]; exact decide_eq_true z
  · rw [tr_false z]; exact decide_eq_false z
theorem chain_le_lt {fa fb fc : Ex} {ρ : Rho} {m : Store} {a b c : Int} (ha : fa ρ m = some (.d (.int a), m)) (hb : fb ρ m = some (.d (.int b), m)) (hc : fc ρ m = some (.d (.int c), m)) : eChain (g2 opLe) (g2 opLt) fa fb fc ρ m = some (.d (.bl (decide (a ≤ b ∧ b < c))), m) := by
  unfold eChain
  rw [ha, Option.bind_some, hb, Option.bind_some]
  show ((g2 opLe (.d (.int a)) (.d (.int b)) m)).bind _ = _
  show (if decide (a ≤ b) = true then (fc ρ m).bind _ else _) = _
  by_cases h : a ≤ b
  · rw [if_pos (decide_eq_true h), hc, Option.bind_some]
    show some (E.d (.bl (decide (b < c))), m) = _
    simp [h]
  · rw [if_neg (by simp [h])]
    simp [h]
end PL
namespace Lw
open PySem PySem.Spec L2 PL
set_option autoImplicit false
local macro_rules | `(tactic| simp_arith [$ls,*]) => `(tactic| simp only [eV, eC, eBin, g2, eUn, eBi, eCall, aNil, aCons, sSeq, sRet, sIf, sSet, sAsg, tgName, tgTup_pair, sNil, eIf, tAndM, tOrM, tNotM, eAnd, eOr, eNot, tTrue, sFor, tOf_eq, look_d, frzE_d, opAdd_i, opI_i, opEqA_i, opNeA_i, opEqA_b, opLen_l, opLen_t, opLen_s, opLen_d, gIx_d, gIx_own, intOf_d, itemsOf_l, itemsOf_t, opTuple_l, opTuple_t, opList_l, opList_t, opIx_web0, opIx_web1, opIn_pair, opNotIn_pair, wipeE,
  Option.bind_some, Option.bind_none, List.map_cons, List.map_nil, List.replicate, List.cons_append, List.nil_append, List.getElem?_cons_zero, List.getElem?_cons_succ, List.set_cons_zero, List.set_cons_succ, List.length_cons, List.length_nil, fin_d, Option.map_some, List.length_map, Int.toNat_natCast, if_true, if_false, Bool.false_eq_true, $ls,*])
local macro_rules | `(tactic| simp_arith) => `(tactic| simp_arith [Option.bind_some])
def meets (ms : Ms) (p : Int) : List Int := ((List.range ms.length).filter fun i => decide (p = (pr ms i).1 ∨ p = (pr ms i).2)).map fun (i : Nat) => (i : Int)
theorem rng {f : Ex} {ρ : Rho} {m : Store} {n : Nat} (h : f ρ m = some (.d (.int n), m)) (hn : n ≤ 1000000) : iRange1 f ρ m = some ((List.range n).map fun (i : Nat) => D.int (i : Int), m) := by
  rw [iRange1_eq h rfl (by omega) (by omega)]
  simp
theorem meetings_of_eq (n : Int) (ms : Ms) (p : Int) (m : Store) (hl : ms.length ≤ 1000) : m_meetings_of [.d (webD n ms), .d (.int p)] m = some (.d (.lst ((meets ms p).map .int)), m) := by
  unfold m_meetings_of
  rw [fnD_eq 2 1 b_meetings_of _ m rfl]
  unfold b_meetings_of
  simp_arith
  rw [eLc_map (ys := List.range ms.length) (k := fun (i : Nat) => D.int (i : Int)) (fun i => decide (p = (pr ms i).1 ∨ p = (pr ms i).2)) (fun (i : Nat) => .int (i : Int)) (rng (by simp_arith) (by omega)) (by simp; omega)]
  · simp_arith [meets, List.map_map]
    rfl
  · intro i hi
    have hi := List.mem_range.mp hi
    refine ⟨_, rfl, ?_, fun _ => ?_⟩
    · simp_arith [opIx_ms ms i (by omega) (by omega)]
    · simp_arith
theorem load_eq (n : Int) (ms : Ms) (p : Int) (m : Store) (hl : ms.length ≤ 1000) : m_load [.d (webD n ms), .d (.int p)] m = some (.d (.int (meets ms p).length), m) := by
  unfold m_load
  rw [fnD_eq 2 0 b_load _ m rfl]
  unfold b_load
  simp_arith [meetings_of_eq n ms p m hl]
def clashB (p q : Int × Int) : Bool := decide ((p.1 = q.1 ∨ p.1 = q.2) ∨ (p.2 = q.1 ∨ p.2 = q.2))
theorem ite_or {p q : Prop} [Decidable p] [Decidable q] {m : Store} : (if decide p = true then some (E.d (.bl true), m) else some (E.d (.bl (decide q)), m)) = some (E.d (.bl (decide (p ∨ q))), m) := by
  by_cases h : p <;> simp [h]
end Lw
namespace Lw
open PySem PySem.Spec L2 PL
set_option autoImplicit false
local macro_rules | `(tactic| simp_arith [$ls,*]) => `(tactic| try simp only [eV, eC, eBin, g2, eUn, eBi, eCall, aNil, aCons, sSeq, sRet, sIf, sSet, sAsg, tgName, tgTup_pair, sNil, eIf, tAndM, tOrM, tNotM, eAnd, eOr, eNot, tTrue, sFor, tOf_eq, look_d, frzE_d, opAdd_i, opI_i, opEqA_i, opNeA_i, opEqA_b, opLen_l, opLen_t, opLen_s, opLen_d, gIx_d, gIx_own, intOf_d, itemsOf_l, itemsOf_t, opTuple_l, opTuple_t, opList_l, opList_t, opIx_web0, opIx_web1, opIn_pair, opNotIn_pair, wipeE,
  Option.bind_some, Option.bind_none, List.map_cons, List.map_nil, List.replicate, List.cons_append, List.nil_append, List.getElem?_cons_zero, List.getElem?_cons_succ, List.set_cons_zero, List.set_cons_succ, List.length_cons, List.length_nil, fin_d, Option.map_some, List.length_map, Int.toNat_natCast, if_true, if_false, Bool.false_eq_true, $ls,*])
local macro_rules | `(tactic| simp_arith) => `(tactic| simp_arith [Option.bind_some])

def planD (plan : List Int) : D := .tup (plan.map .int)
theorem opMax_ints (ns : List Int) (v : Int) (h : maxI ns = some v) : opMax (.lst (ns.map .int)) = some (.int v) := by
  show (intsOf (ns.map .int)).bind _ = _
  rw [intsOf_map]
  show (maxI ns).map D.int = _
  rw [h]; rfl
theorem opMin_ints (ns : List Int) (v : Int) (h : minI ns = some v) : opMin (.lst (ns.map .int)) = some (.int v) := by
  show (intsOf (ns.map .int)).bind _ = _
  rw [intsOf_map]
  show (minI ns).map D.int = _
  rw [h]; rfl
def maxZ (ns : List Int) : Int := (maxI ns).getD 0
def minZ (ns : List Int) : Int := (minI ns).getD 0
theorem maxI_some {ns : List Int} (h : ns ≠ []) : maxI ns = some (maxZ ns) := by
  cases ns with
  | nil => exact absurd rfl h
  | cons x xs => rfl
theorem minI_some {ns : List Int} (h : ns ≠ []) : minI ns = some (minZ ns) := by
  cases ns with
  | nil => exact absurd rfl h
  | cons x xs => rfl
theorem opMax_eq (ns : List Int) (h : ns ≠ []) : opMax (.lst (ns.map .int)) = some (.int (maxZ ns)) := opMax_ints ns _ (maxI_some h)
theorem opMin_eq (ns : List Int) (h : ns ≠ []) : opMin (.lst (ns.map .int)) = some (.int (minZ ns)) := opMin_ints ns _ (minI_some h)
theorem opAdd_ll (xs ys : List D) (h : xs.length + ys.length ≤ 1000000) : opAdd (.lst xs) (.lst ys) = some (.lst (xs ++ ys)) := if_pos h
theorem opAdd_tt (xs ys : List D) (h : xs.length + ys.length ≤ 1000000) : opAdd (.tup xs) (.tup ys) = some (.tup (xs ++ ys)) := if_pos h
theorem eLst_eq {g : Ax} {ρ : Rho} {m m' : Store} {es : List E} {ds : List D} (h : g ρ m = some (es, m')) (hd : frzAll es m' = some (ds, m')) (hl : ds.length ≤ 1000000) : eLst g ρ m = some (.d (.lst ds), m') := by
  unfold eLst
  rw [h, Option.bind_some, hd, Option.bind_some]
  exact if_pos hl
def loads (n : Int) (ms : Ms) : List Int := (List.range n.toNat).map fun (p : Nat) => ((meets ms (p : Int)).length : Int)
def gload (n : Int) (ms : Ms) : Int := maxZ (0 :: loads n ms)
def Right (ms : Ms) (plan : List Int) (k : Int) : Prop := plan.length = ms.length ∧ (∀ d ∈ plan, 0 ≤ d ∧ d < k) ∧ ∀ i j : Nat, j < i → i < plan.length → ¬ (plan.getD i 0 = plan.getD j 0 ∧ clashB (pr ms i) (pr ms j) = true)
theorem filter_none {α : Type} {c : α → Bool} {l : List α} : ((l.filter c).length = 0) ↔ ∀ x ∈ l, c x = false := by
  rw [List.length_eq_zero_iff, List.filter_eq_nil_iff]
  constructor
  · intro h x hx
    have := h x hx
    cases q : c x with
    | true => exact absurd q this
    | false => rfl
  · intro h x hx
    rw [h x hx]
    exact Bool.false_ne_true
theorem tup_items {xs : List Int} {i : Nat} {ρ : Rho} {m : Store} (h : ρ[i]? = some (some (.d (planD xs)))) : iSeq (eV i) ρ m = some (xs.map .int, m) := iSeq_eq (d := planD xs) (by unfold eV; rw [h]) rfl
theorem lst_items {xs : List D} {f : Ex} {ρ : Rho} {m m' : Store} (h : f ρ m = some (.d (.lst xs), m')) : iSeq f ρ m = some (xs, m') := iSeq_eq h rfl
theorem opLen_p (xs : List Int) : opLen (planD xs) = some (.int xs.length) := by unfold planD; rw [opLen_t, List.length_map]
theorem opIx_p (xs : List Int) (i : Int) (h0 : 0 ≤ i) (h : i < xs.length) : opIx (planD xs) (.int i) = some (.int (xs.getD i.toNat 0)) := opIx_ti xs i h0 h
def counts (plan : List Int) (k : Int) : List Int := (List.range k.toNat).map fun (c : Nat) => ((plan.filter fun d => decide (d = (c : Int))).length : Int)
theorem counts_ne {plan : List Int} {k : Int} (h : 1 ≤ k) : counts plan k ≠ [] := by
  unfold counts
  intro z
  have := congrArg List.length z
  rw [List.length_map, List.length_range, List.length_nil] at this
  omega
theorem notDec {p : Prop} [Decidable p] (h : (!decide p) = false) : p := by
  by_cases z : p
  · exact z
  · rw [decide_eq_false z] at h
    cases h
theorem notDec' {p : Prop} [Decidable p] (h : p) : (!decide p) = false := by
  rw [decide_eq_true h]
  rfl
def Homes (ms : Ms) (homes : List Int) : Prop := homes.length = ms.length ∧ ∀ i : Nat, i < ms.length → (homes.getD i 0 = (pr ms i).1 ∨ homes.getD i 0 = (pr ms i).2)
def absZ (x : Int) : Int := if x < 0 then -x else x
theorem opAbs_i (x : Int) : opAbs (.int x) = some (.int (absZ x)) := rfl
theorem meets_mem {ms : Ms} {p z : Int} (h : z ∈ meets ms p) : 0 ≤ z ∧ z < ms.length ∧ (p = (pr ms z.toNat).1 ∨ p = (pr ms z.toNat).2) := by
  unfold meets at h
  obtain ⟨i, hi, rfl⟩ := List.mem_map.mp h
  obtain ⟨h1, h2⟩ := List.mem_filter.mp hi
  have h1 := List.mem_range.mp h1
  exact ⟨by omega, by omega, by simpa using h2⟩
theorem meets_len (ms : Ms) (p : Int) : (meets ms p).length ≤ ms.length := by
  unfold meets
  rw [List.length_map]
  have := List.length_filter_le (fun i => decide (p = (pr ms i).1 ∨ p = (pr ms i).2)) (List.range ms.length)
  rw [List.length_range] at this
  exact this
def atHome (ms : Ms) (homes : List Int) (p : Int) : List Int := (meets ms p).filter fun z => decide (homes.getD z.toNat 0 = p)
def Fair (n : Int) (ms : Ms) (homes : List Int) : Prop := ∀ p : Nat, p < n.toNat → absZ (2 * ((atHome ms homes p).length : Int) - ((meets ms p).length : Int)) ≤ 1
def mine (ms : Ms) (xs : List Int) (p : Int) : List Int := (meets ms p).map fun z => xs.getD z.toNat 0
theorem mine_len (ms : Ms) (xs : List Int) (p : Int) : (mine ms xs p).length ≤ ms.length := by
  unfold mine
  rw [List.length_map]
  exact meets_len ms p
def Stretch (ms : Ms) (plan : List Int) (p : Int) : Prop := mine ms plan p ≠ [] → maxZ (mine ms plan p) - minZ (mine ms plan p) + 1 = ((distinct (mine ms plan p)).length : Int)
theorem opLenSet_ints (ns : List Int) (h : ns.length ≤ 4000) : opLenSet (.lst (ns.map .int)) = some (.int (distinct ns).length) := by
  show (intsOf (ns.map .int)).bind _ = _
  rw [intsOf_map, Option.bind_some]
  exact if_pos h
def wcounts (ms : Ms) (weeks : List Int) (k p : Int) : List Int := (List.range k.toNat).map fun (c : Nat) => ((mine ms weeks p).count (c : Int) : Int)
def Level (n : Int) (ms : Ms) (weeks : List Int) (k : Int) : Prop := weeks.length = ms.length ∧ (∀ d ∈ weeks, 0 ≤ d ∧ d < k) ∧ ∀ p : Nat, p < n.toNat → maxZ (wcounts ms weeks k p) - minZ (wcounts ms weeks k p) ≤ 1
theorem opCount_ints (ns : List Int) (k : Int) : opCount (.lst (ns.map .int)) (.int k) = some (.int (ns.count k : Nat)) := by
  show (intsOf (ns.map .int)).map _ = _
  rw [intsOf_map]
  rfl
theorem wcounts_ne {ms : Ms} {weeks : List Int} {k p : Int} (h : 1 ≤ k) : wcounts ms weeks k p ≠ [] := by
  unfold wcounts
  intro z
  have := congrArg List.length z
  rw [List.length_map, List.length_range, List.length_nil] at this
  omega
theorem other_of_eq (n : Int) (ms : Ms) (i p : Int) (m : Store) (hi0 : 0 ≤ i) (hi : i < ms.length) : m_other_of [.d (webD n ms), .d (.int i), .d (.int p)] m = some (.d (.int (if p = (pr ms i.toNat).1 then (pr ms i.toNat).2 else (pr ms i.toNat).1)), m) := by
  unfold m_other_of
  rw [fnD_eq 3 2 b_other_of _ m rfl]
  unfold b_other_of
  simp_arith [opIx_ms ms i hi0 hi]
  by_cases c : p = (pr ms i.toNat).1
  · rw [decide_eq_true c, if_pos c]
    simp_arith
  · rw [decide_eq_false c, if_neg c]
    simp_arith

end Lw
namespace PL
open PySem PySem.Spec L2
set_option autoImplicit false
def W {α : Type} (o : Option α) (Q : α → Prop) : Prop := ∃ a, o = some a ∧ Q a
theorem W_some {α : Type} {a : α} {Q : α → Prop} : W (some a) Q ↔ Q a := ⟨fun ⟨b, e, q⟩ => by cases e; exact q, fun q => ⟨a, rfl, q⟩⟩
theorem W.step {α β : Type} {o : Option α} {K : α → Option β} {P : α → Prop} {Q : β → Prop} (h : W o P) (k : ∀ a, P a → W (K a) Q) : W (o.bind K) Q := by
  obtain ⟨a, e, p⟩ := h
  obtain ⟨b, e2, q⟩ := k a p
  exact ⟨b, by rw [e]; exact e2, q⟩
theorem W.eq {α β : Type} {o : Option α} {a : α} {K : α → Option β} {Q : β → Prop} (h : o = some a) (k : W (K a) Q) : W (o.bind K) Q := by
  rw [h]; exact k
theorem W.mono {α : Type} {o : Option α} {P Q : α → Prop} (h : W o P) (k : ∀ a, P a → Q a) : W o Q := by
  obtain ⟨a, e, p⟩ := h
  exact ⟨a, e, k a p⟩
def Goes (fl : Fl) : Prop := fl = .nx ∨ fl = .ct
theorem goes_nx : Goes .nx := .inl rfl
theorem W.loop {α β : Type} {tg : Tg} {body : Sx} {k : α → D} {ys : List α} {ρ : Rho} {m : Store} {K : Fl × Rho × Store → Option β} {Q : β → Prop} (Inv : Nat → Rho → Store → Prop) (h0 : Inv 0 ρ m)
    (step : ∀ (i : Nat) (y : α), ys[i]? = some y → ∀ (ρ : Rho) (m : Store), Inv i ρ m → ∃ ρ1, tg (.d (k y)) ρ = some ρ1 ∧ W (body ρ1 m) fun r => Goes r.1 ∧ Inv (i + 1) r.2.1 r.2.2)
    (done : ∀ (ρ : Rho) (m : Store), Inv ys.length ρ m → W (K (.nx, ρ, m)) Q) : W ((forL tg body (ys.map k) ρ m).bind K) Q := by
  suffices h : ∀ (zs : List α) (i : Nat) (ρ : Rho) (m : Store), ys.drop i = zs → i ≤ ys.length → Inv i ρ m → ∃ ρ2 m2, forL tg body (zs.map k) ρ m = some (.nx, ρ2, m2) ∧ Inv ys.length ρ2 m2 by
    obtain ⟨ρ2, m2, e, q⟩ := h ys 0 ρ m rfl (Nat.zero_le _) h0
    rw [e]
    exact done ρ2 m2 q
  intro zs
  induction zs with
  | nil =>
    intro i ρ m e hi q
    have : i = ys.length := by
      have := congrArg List.length e
      rw [List.length_drop, List.length_nil] at this
      omega
    rw [← this]
    exact ⟨ρ, m, rfl, q⟩
  | cons z zs ih =>
    intro i ρ m e hi q
    have hl : i < ys.length := by
      have := congrArg List.length e
      rw [List.length_drop, List.length_cons] at this
      omega
    rw [List.drop_eq_getElem_cons hl] at e
    obtain ⟨e1, e2⟩ := List.cons.inj e
    obtain ⟨ρ1, h1, ⟨fl, ρ2, m2⟩, h2, h3, h4⟩ := step i z (by rw [List.getElem?_eq_getElem hl, e1]) ρ m q
    rw [List.map_cons, forL_step h1 h2]
    have go := ih (i + 1) ρ2 m2 e2 hl h4
    rcases h3 with h3 | h3
    · have h3 : fl = .nx := h3
      subst h3
      exact go
    · have h3 : fl = .ct := h3
      subst h3
      exact go
theorem W.loopE {α β : Type} {tg : Tg} {body : Sx} (k : α → D) (ys : List α) {items : List D} {ρ : Rho} {m : Store} {K : Fl × Rho × Store → Option β} {Q : β → Prop} (e : items = ys.map k) (Inv : Nat → Rho → Store → Prop) (h0 : Inv 0 ρ m)
    (step : ∀ (i : Nat) (y : α), ys[i]? = some y → ∀ (ρ : Rho) (m : Store), Inv i ρ m → ∃ ρ1, tg (.d (k y)) ρ = some ρ1 ∧ W (body ρ1 m) fun r => Goes r.1 ∧ Inv (i + 1) r.2.1 r.2.2)
    (done : ∀ (ρ : Rho) (m : Store), Inv ys.length ρ m → W (K (.nx, ρ, m)) Q) : W ((forL tg body items ρ m).bind K) Q := by
  rw [e]
  exact W.loop Inv h0 step done
theorem W.lc {α β : Type} {tg : Tg} {tt : Tx} {te : Ex} {k : α → D} {ys : List α} {ρ : Rho} {m : Store} {K : List D × Store → Option β} {Q : β → Prop} (Inv : Nat → List D → Store → Prop) (h0 : Inv 0 [] m)
    (step : ∀ (i : Nat) (y : α), ys[i]? = some y → ∀ (ds : List D) (m : Store), Inv i ds m → ∃ ρ1, tg (.d (k y)) ρ = some ρ1 ∧ W (tt ρ1 m) fun b => (b.1 = true → W (te ρ1 b.2) fun y => W (frzE y.2 y.1) fun d => Inv (i + 1) (ds ++ [d.1]) d.2) ∧ (b.1 = false → Inv (i + 1) ds b.2))
    (done : ∀ (ds : List D) (m : Store), Inv ys.length ds m → W (K (ds, m)) Q) : W ((lcLoop tg tt te ρ (ys.map k) m).bind K) Q := by
  suffices h : ∀ (zs : List α) (i : Nat) (ds : List D) (m : Store), ys.drop i = zs → i ≤ ys.length → Inv i ds m → ∃ es m2, lcLoop tg tt te ρ (zs.map k) m = some (es, m2) ∧ Inv ys.length (ds ++ es) m2 by
    obtain ⟨es, m2, e, q⟩ := h ys 0 [] m rfl (Nat.zero_le _) h0
    rw [e]
    exact done es m2 q
  intro zs
  induction zs with
  | nil =>
    intro i ds m e hi q
    have : i = ys.length := by
      have := congrArg List.length e
      rw [List.length_drop, List.length_nil] at this
      omega
    rw [← this]
    exact ⟨[], m, rfl, by rw [List.append_nil]; exact q⟩
  | cons z zs ih =>
    intro i ds m e hi q
    have hl : i < ys.length := by
      have := congrArg List.length e
      rw [List.length_drop, List.length_cons] at this
      omega
    rw [List.drop_eq_getElem_cons hl] at e
    obtain ⟨e1, e2⟩ := List.cons.inj e
    obtain ⟨ρ1, h1, ⟨b, m1⟩, h2, h3, h4⟩ := step i z (by rw [List.getElem?_eq_getElem hl, e1]) ds m q
    rw [List.map_cons]
    show ∃ es m2, ((tg (.d (k z)) ρ).bind _) = some (es, m2) ∧ _
    rw [h1]
    show ∃ es m2, ((tt ρ1 m).bind _) = some (es, m2) ∧ _
    rw [h2]
    cases b with
    | true =>
      obtain ⟨⟨y, m3⟩, g1, ⟨d, m4⟩, g2, g3⟩ := h3 rfl
      obtain ⟨es, m5, g4, g5⟩ := ih (i + 1) (ds ++ [d]) m4 e2 hl g3
      refine ⟨d :: es, m5, ?_, by rw [List.append_assoc] at g5; exact g5⟩
      show ((te ρ1 m1).bind _) = _
      rw [g1]
      show ((frzE m3 y).bind _) = _
      rw [g2]
      show ((lcLoop tg tt te ρ (zs.map k) m4).bind _) = _
      rw [g4]
      rfl
    | false => exact ih (i + 1) ds m1 e2 hl (h4 rfl)
theorem W.seqSet {i : Nat} {f : Ex} {g : Sx} {ρ : Rho} {m : Store} {Q : Fl × Rho × Store → Prop} (h : W (f ρ m) fun p => W (g (ρ.set i (some p.1)) p.2) Q) : W (sSeq (sSet i f) g ρ m) Q := by
  obtain ⟨⟨e, m'⟩, h1, h2⟩ := h
  obtain ⟨r, h3, h4⟩ := h2
  refine ⟨r, ?_, h4⟩
  show ((f ρ m).bind _).bind _ = _
  rw [h1]
  exact h3
theorem W.setE {i : Nat} {f : Ex} {g : Sx} {ρ : Rho} {m m' : Store} {Q : Fl × Rho × Store → Prop} (e : E) (h : f ρ m = some (e, m')) (k : W (g (ρ.set i (some e)) m') Q) : W (sSeq (sSet i f) g ρ m) Q := W.seqSet ⟨_, h, k⟩
theorem W.setW {i : Nat} {f : Ex} {g : Sx} {ρ : Rho} {m : Store} {Q : Fl × Rho × Store → Prop} (P : E × Store → Prop) (h : W (f ρ m) P) (k : ∀ (e : E) (m' : Store), P (e, m') → W (g (ρ.set i (some e)) m') Q) : W (sSeq (sSet i f) g ρ m) Q := W.seqSet (h.mono fun p q => k p.1 p.2 q)
theorem W.asg {tg : Tg} {f : Ex} {g : Sx} {ρ : Rho} {m : Store} {Q : Fl × Rho × Store → Prop} (P : E × Store → Prop) (h : W (f ρ m) P) (k : ∀ (e : E) (m' : Store), P (e, m') → ∃ ρ', tg e ρ = some ρ' ∧ W (g ρ' m') Q) : W (sSeq (sAsg f tg) g ρ m) Q := by
  obtain ⟨⟨e, m'⟩, h1, h2⟩ := h
  obtain ⟨ρ', h3, r, h4, h5⟩ := k e m' h2
  refine ⟨r, ?_, h5⟩
  show ((f ρ m).bind _).bind _ = _
  rw [h1]
  show ((tg e ρ).bind _).bind _ = _
  rw [h3]
  exact h4
theorem W.seqNx {f g : Sx} {ρ : Rho} {m : Store} {Q : Fl × Rho × Store → Prop} (h : W (f ρ m) fun r => r.1 = .nx ∧ W (g r.2.1 r.2.2) Q) : W (sSeq f g ρ m) Q := by
  obtain ⟨⟨fl, ρ', m'⟩, h1, h2, h3⟩ := h
  have h2 : fl = .nx := h2
  subst h2
  obtain ⟨r, h4, h5⟩ := h3
  refine ⟨r, ?_, h5⟩
  show (f ρ m).bind _ = _
  rw [h1]
  exact h4
theorem W.seqP {f g : Sx} {ρ : Rho} {m : Store} {Q : Fl × Rho × Store → Prop} (P : Rho → Store → Prop) (h : W (f ρ m) fun r => r.1 = .nx ∧ P r.2.1 r.2.2) (k : ∀ (ρ' : Rho) (m' : Store), P ρ' m' → W (g ρ' m') Q) : W (sSeq f g ρ m) Q := W.seqNx (h.mono fun r ⟨a, b⟩ => ⟨a, k _ _ b⟩)
theorem W.body {n k : Nat} {body : Sx} {es : List E} {m : Store} {Q : E × Store → Prop} (hn : es.length = n) (h : W (body (es.map some ++ List.replicate k none) m) fun r => W (match r.1 with | .rt e => fin m.length r.2.2 e | .nx => some (.d .non, r.2.2.take m.length) | _ => none) Q) : W (fnD n k body es m) Q := by
  rw [fnD_eq n k body es m hn]
  exact W.step h fun a p => p
theorem W.bnd {α : Type} {o : Option α} {Q : α → Prop} (h : W (o.bind some) Q) : W o Q := by
  cases o with
  | none => exact h
  | some a => exact h
theorem W.pos {α β : Type} {p : Prop} [Decidable p] {x y : Option α} {K : α → Option β} {Q : β → Prop} (h : p) (k : W (x.bind K) Q) : W ((if p then x else y).bind K) Q := by
  rw [if_pos h]; exact k
noncomputable def rgK (p : E × Store) : Option (List D × Store) := (intOf p.2 p.1).bind fun n => if okP (-(big : Int) ≤ n ∧ n ≤ (big : Int)) = true then some (rangeE 0 n.toNat, p.2) else none
theorem iRange1_bind (f : Ex) (ρ : Rho) (m : Store) : iRange1 f ρ m = (f ρ m).bind rgK := rfl
theorem rgK_eq {n : Int} {m : Store} (h : -1000000 ≤ n ∧ n ≤ 1000000) : rgK (.d (.int n), m) = some ((List.range n.toNat).map (fun (i : Nat) => D.int (i : Int)), m) := by
  have hb : (big : Int) = 1000000 := rfl
  show (if okP (-(big : Int) ≤ n ∧ n ≤ (big : Int)) = true then some (rangeE 0 n.toNat, m) else none) = _
  rw [if_pos (okP_true ⟨by omega, by omega⟩), rangeE_zero]
theorem W.rg {β : Type} {n : Int} {m : Store} {K : List D × Store → Option β} {Q : β → Prop} (h : -1000000 ≤ n ∧ n ≤ 1000000) (k : W (K ((List.range n.toNat).map (fun (i : Nat) => D.int (i : Int)), m)) Q) : W ((rgK (.d (.int n), m)).bind K) Q := W.eq (rgK_eq h) k
theorem iRange2_eq {f g : Ex} {ρ : Rho} {m m1 m' : Store} {e e' : E} {a n : Int} (h : f ρ m = some (e, m1)) (h2 : g ρ m1 = some (e', m')) (hi : intOf m' e = some a) (hi2 : intOf m' e' = some n) (hb : -1000000 ≤ n ∧ n ≤ 1000000 ∧ -1000000 ≤ a ∧ a ≤ 1000000) : iRange2 f g ρ m = some ((List.range (n - a).toNat).map fun (i : Nat) => D.int (a + (i : Int)), m') := by
  unfold iRange2
  rw [h]
  show (g ρ m1).bind _ = _
  rw [h2]
  show (intOf m' e).bind _ = _
  rw [hi]
  show (intOf m' e').bind _ = _
  rw [hi2]
  show (if okP (-(big : Int) ≤ a ∧ a ≤ (big : Int) ∧ -(big : Int) ≤ n ∧ n ≤ (big : Int)) = true then some (rangeE a (n - a).toNat, m') else none) = _
  have hb : (big : Int) = 1000000 := rfl
  rw [if_pos (okP_true ⟨by omega, by omega, by omega, by omega⟩)]
  rfl
theorem lb0 : (0 ≤ big) = True := eq_true (by decide)
theorem lb1 : (1 ≤ big) = True := eq_true (by decide)
theorem lb2 : (1 + 1 ≤ big) = True := eq_true (by decide)
theorem lb3 : (1 + 1 + 1 ≤ big) = True := eq_true (by decide)
theorem lb4 : (1 + 1 + 1 + 1 ≤ big) = True := eq_true (by decide)
theorem lb5 : (1 + 1 + 1 + 1 + 1 ≤ big) = True := eq_true (by decide)
theorem lb6 : (1 + 1 + 1 + 1 + 1 + 1 ≤ big) = True := eq_true (by decide)
theorem lb7 : (1 + 1 + 1 + 1 + 1 + 1 + 1 ≤ big) = True := eq_true (by decide)
theorem lb8 : (1 + 1 + 1 + 1 + 1 + 1 + 1 + 1 ≤ big) = True := eq_true (by decide)
theorem lb9 : (1 + 1 + 1 + 1 + 1 + 1 + 1 + 1 + 1 ≤ big) = True := eq_true (by decide)
theorem lb10 : (1 + 1 + 1 + 1 + 1 + 1 + 1 + 1 + 1 + 1 ≤ big) = True := eq_true (by decide)
theorem lb11 : (1 + 1 + 1 + 1 + 1 + 1 + 1 + 1 + 1 + 1 + 1 ≤ big) = True := eq_true (by decide)
theorem lb12 : (1 + 1 + 1 + 1 + 1 + 1 + 1 + 1 + 1 + 1 + 1 + 1 ≤ big) = True := eq_true (by decide)
theorem lb13 : (1 + 1 + 1 + 1 + 1 + 1 + 1 + 1 + 1 + 1 + 1 + 1 + 1 ≤ big) = True := eq_true (by decide)
theorem lb14 : (1 + 1 + 1 + 1 + 1 + 1 + 1 + 1 + 1 + 1 + 1 + 1 + 1 + 1 ≤ big) = True := eq_true (by decide)
theorem lb15 : (1 + 1 + 1 + 1 + 1 + 1 + 1 + 1 + 1 + 1 + 1 + 1 + 1 + 1 + 1 ≤ big) = True := eq_true (by decide)
theorem lb16 : (1 + 1 + 1 + 1 + 1 + 1 + 1 + 1 + 1 + 1 + 1 + 1 + 1 + 1 + 1 + 1 ≤ big) = True := eq_true (by decide)
theorem lb17 : (1 + 1 + 1 + 1 + 1 + 1 + 1 + 1 + 1 + 1 + 1 + 1 + 1 + 1 + 1 + 1 + 1 ≤ big) = True := eq_true (by decide)
theorem opNeg_i (a : Int) : opNeg (.int a) = some (.int (-a)) := rfl
theorem opSl_l (xs : List D) (a b : Option Int) : opSl (.lst xs) a b = some (.lst (cutD xs a b)) := rfl
theorem opSl_t (xs : List D) (a b : Option Int) : opSl (.tup xs) a b = some (.tup (cutD xs a b)) := rfl
theorem cutD_map {α β : Type} (f : α → β) (xs : List α) (a b : Option Int) : cutD (xs.map f) a b = (cutD xs a b).map f := by
  unfold cutD
  rw [List.length_map, List.map_take, List.map_drop]
theorem cutD_from {α : Type} (xs : List α) (k : Int) (h0 : 0 ≤ k) : cutD xs (some k) none = xs.drop k.toNat := by
  obtain ⟨j, rfl⟩ : ∃ j : Nat, k = j := ⟨k.toNat, by omega⟩
  unfold cutD
  rw [HT.sIx_nat, HT.sIx_none, Int.toNat_natCast]
  rw [List.take_of_length_le (by rw [List.length_drop]; omega)]
  by_cases h : j ≤ xs.length
  · rw [Nat.min_eq_left h]
  · rw [Nat.min_eq_right (by omega), List.drop_eq_nil_of_le (by omega), List.drop_eq_nil_of_le (by omega)]
theorem cutD_to {α : Type} (xs : List α) (k : Int) (h0 : 0 ≤ k) : cutD xs none (some k) = xs.take k.toNat := by
  obtain ⟨j, rfl⟩ : ∃ j : Nat, k = j := ⟨k.toNat, by omega⟩
  unfold cutD
  rw [HT.sIx_nat, HT.sIx_none, Int.toNat_natCast, Nat.sub_zero, List.drop_zero]
  by_cases h : j ≤ xs.length
  · rw [Nat.min_eq_left h]
  · rw [Nat.min_eq_right (by omega), List.take_of_length_le (by omega), List.take_of_length_le (by omega)]
abbrev ck (c : Int) : O := .lst [.int c]
theorem opIx_ck (c : Int) : opIx (.lst [.int c]) (.int 0) = some (.int c) := rfl
end PL
namespace Lw
open PySem PySem.Spec L2 PL
set_option autoImplicit false
local macro_rules | `(tactic| simp_arith [$ls,*]) => `(tactic| try simp (maxSteps := 2000000) only [eV, eC, eBin, g2, eUn, eBi, eCall, aNil, aCons, sSeq, sRet, sIf, sSet, sAsg, sExp, tgName, tgTup_pair, sNil, eIf, tAndM, tOrM, tNotM, eAnd, eOr, eNot, tTrue, sFor, iRange1_bind, iSeq, eSl, oNone, oSome, opNeg_i, opSl_l, opSl_t, tOf_eq, look_d, frzE_d, frzAll, eLst, eTup, eLstO, eApp, sPutL, cellL, look, frzE, gIx_d, gIx_own, gIx_deal, dealAt, intOf, opAdd_i, opI_i, opEqA_i, opNeA_i, opEqA_b, opLen_l, opLen_t, opLen_s, opLen_d, itemsOf_l, itemsOf_t, opTuple_l, opTuple_t, opList_l, opList_t, opIx_web0, opIx_web1, opIx_ck, opIn_pair, opNotIn_pair, wipeE, fin, ck, 
  Option.bind_some, Option.bind_none, Option.bind_assoc, W_some, List.map_cons, List.map_nil, List.replicate, List.cons_append, List.nil_append, List.getElem?_cons_zero, List.getElem?_cons_succ, List.set_cons_zero, List.set_cons_succ, List.length_cons, List.length_nil, List.take_succ_cons, List.take_zero, List.take_nil, List.take_length, List.length_append, Nat.zero_add, Nat.lt_irrefl, Option.map_some, List.length_map, Int.toNat_natCast, if_true, if_false, Bool.false_eq_true, Bool.not_true, Bool.not_false, decide_true, decide_false, reduceCtorEq, lb0, lb1, lb2, lb3, lb4, lb5, lb6, lb7, lb8, lb9, lb10, lb11, lb12, lb13, lb14, lb15, lb16, lb17, $ls,*])
local macro_rules | `(tactic| simp_arith) => `(tactic| simp_arith [Option.bind_some])
abbrev dl (row : List Int) (t : Int) : E := .deal row 0 t
theorem take_spec {row : List Int} {t n c : Int} {r : Store} (hn : 0 < n) (h0 : 0 ≤ c) (h1 : c ≤ 1000000000) : W (m__law_take [dl row t, .d (.int n)] (ck c :: r)) fun p => ∃ v, 0 ≤ v ∧ v < n ∧ p = (.d (.int v), ck (c + 1) :: r) := by
  unfold m__law_take
  rw [fnD_eq 2 1 b__law_take _ _ rfl]
  unfold b__law_take
  have e : ixN 1 0 = some 0 := rfl
  simp_arith [e]
  by_cases hc : c < ((row.map D.int).length : Int)
  · rw [List.length_map] at hc
    rw [decide_eq_true hc]
    simp_arith
    rw [opIx_li row c h0 hc]
    simp_arith
    rw [if_pos hn]
    simp_arith
    exact ⟨_, Int.emod_nonneg _ (by omega), Int.emod_lt_of_pos _ hn, rfl⟩
  · rw [List.length_map] at hc
    rw [decide_eq_false hc]
    simp_arith [opMulA_r _ 7919 (by decide), opMulA_r _ 31 (by decide), opMulA_r _ 17 (by decide), opMulA_l c c ⟨by omega, by omega⟩]
    rw [if_pos (by decide)]
    simp_arith
    rw [if_pos hn]
    simp_arith
    exact ⟨_, Int.emod_nonneg _ (by omega), Int.emod_lt_of_pos _ hn, rfl⟩
def Good (n : Int) (ms : Ms) : Prop := ∀ p ∈ ms, 0 ≤ p.1 ∧ p.1 < p.2 ∧ p.2 < n
def WebOk (most n : Int) (ms : Ms) : Prop := 0 ≤ n ∧ n ≤ 9 ∧ (ms.length : Int) ≤ most ∧ Good n ms
theorem good_nil (n : Int) : Good n [] := fun _ h => nomatch h
theorem Good.snoc {n : Int} {ms : Ms} {p : Int × Int} (h : Good n ms) (hp : 0 ≤ p.1 ∧ p.1 < p.2 ∧ p.2 < n) : Good n (ms ++ [p]) := fun q hq => by
  rcases List.mem_append.mp hq with hq | hq
  · exact h q hq
  · rw [List.mem_singleton.mp hq]; exact hp
theorem few_spec {row : List Int} {t c most : Int} (h0 : 0 ≤ c) (h1 : c ≤ 1000000) (hm : 3 ≤ most) : W (m__law_few [dl row t] [ck c]) fun p => ∃ n ms c', WebOk most n ms ∧ c ≤ c' ∧ c' ≤ c + 20 ∧ p = (.d (webD n ms), [ck c']) := by
  unfold m__law_few
  rw [fnD_eq 1 4 b__law_few _ _ rfl]
  unfold b__law_few
  simp_arith
  refine W.step (take_spec (by omega) (by omega) (by omega)) ?_
  rintro _ ⟨v, v0, v1, rfl⟩
  simp_arith
  refine W.step (take_spec (by omega) (by omega) (by omega)) ?_
  rintro _ ⟨w, w0, w1, rfl⟩
  simp_arith
  refine W.rg ⟨by omega, by omega⟩ ?_
  simp_arith
  refine W.loop (fun i ρ m => ∃ x3 x4 ds c', ρ = [some (dl row t), some (.d (.int (4 - v))), some (.own 1), x3, x4] ∧ m = [ck c', .lst (ds.map pairD)] ∧ (ds.length : Int) ≤ i ∧ Good (4 - v) ds ∧ c ≤ c' ∧ c' ≤ c + 2 + 2 * i) ?_ ?_ ?_
  · exact ⟨_, _, [], _, rfl, rfl, by simp, good_nil _, by omega, by omega⟩
  · rintro i y hy ρ m ⟨x3, x4, ds, c', rfl, rfl, hl, hg, hc0, hc1⟩
    have := (List.getElem?_eq_some_iff.mp hy).1
    rw [List.length_range] at this
    refine ⟨_, rfl, ?_⟩
    simp_arith
    by_cases hv : 1 < 4 - v
    · rw [decide_eq_true hv]
      simp_arith
      refine W.step (take_spec (by omega) (by omega) (by omega)) ?_
      rintro _ ⟨a, a0, a1, rfl⟩
      simp_arith
      refine W.step (take_spec (by omega) (by omega) (by omega)) ?_
      rintro _ ⟨b, b0, b1, rfl⟩
      simp_arith
      rw [if_pos (by unfold big; omega)]
      simp_arith
      refine ⟨goes_nx, _, _, ds ++ [(a, a + 1 + b)], _, rfl, by rw [List.map_append]; rfl, by simp; omega, hg.snoc ⟨by omega, by simp; omega, by simp; omega⟩, by omega, by omega⟩
    · rw [decide_eq_false hv]
      simp_arith
      exact ⟨goes_nx, _, _, ds, _, rfl, rfl, by omega, hg, by omega, by omega⟩
  · rintro ρ m ⟨x3, x4, ds, c', rfl, rfl, hl, hg, hc0, hc1⟩
    rw [List.length_range] at *
    simp_arith
    exact ⟨_, ds, _, ⟨by omega, by omega, by omega, hg⟩, hc0, by omega, rfl⟩
theorem sided_spec {row : List Int} {t c most o : Int} (h0 : 0 ≤ c) (h1 : c ≤ 1000000) (hm : 0 ≤ most) (hm2 : most ≤ 100) (ho : 1 ≤ o) (ho2 : o ≤ 4) : W (m__law_sided [dl row t, .d (.int o), .d (.int most)] [ck c]) fun p => ∃ n ms c', WebOk most n ms ∧ c ≤ c' ∧ c' ≤ c + 300 ∧ p = (.d (webD n ms), [ck c']) := by
  unfold m__law_sided
  rw [fnD_eq 3 4 b__law_sided _ _ rfl]
  unfold b__law_sided
  simp_arith
  refine W.step (take_spec (by omega) (by omega) (by omega)) ?_
  rintro _ ⟨v, v0, v1, rfl⟩
  simp_arith
  refine W.step (take_spec (by omega) (by omega) (by omega)) ?_
  rintro _ ⟨w, w0, w1, rfl⟩
  simp_arith
  refine W.step (take_spec (by omega) (by omega) (by omega)) ?_
  rintro _ ⟨z, z0, z1, rfl⟩
  simp_arith
  refine W.rg ⟨by omega, by omega⟩ ?_
  simp_arith
  refine W.loop (fun i ρ m => ∃ x6 ds c', ρ = [some (dl row t), some (.d (.int o)), some (.d (.int most)), some (.d (.int (1 + v))), some (.d (.int (1 + w))), some (.own 1), x6] ∧ m = [ck c', .lst (ds.map pairD)] ∧ (ds.length : Int) ≤ i ∧ Good (1 + v + (1 + w)) ds ∧ c ≤ c' ∧ c' ≤ c + 3 + 2 * i) ?_ ?_ ?_
  · exact ⟨_, [], _, rfl, rfl, by simp, good_nil _, by omega, by omega⟩
  · rintro i y hy ρ m ⟨x6, ds, c', rfl, rfl, hl, hg, hc0, hc1⟩
    have := (List.getElem?_eq_some_iff.mp hy).1
    rw [List.length_range] at this
    refine ⟨_, rfl, ?_⟩
    simp_arith
    refine W.step (take_spec (by omega) (by omega) (by omega)) ?_
    rintro _ ⟨a, a0, a1, rfl⟩
    simp_arith
    refine W.step (take_spec (by omega) (by omega) (by omega)) ?_
    rintro _ ⟨b, b0, b1, rfl⟩
    simp_arith
    rw [if_pos (by unfold big; omega)]
    simp_arith
    refine ⟨goes_nx, _, ds ++ [(a, 1 + v + b)], _, rfl, by rw [List.map_append]; rfl, by simp; omega, hg.snoc ⟨by omega, by simp; omega, by simp; omega⟩, by omega, by omega⟩
  · rintro ρ m ⟨x6, ds, c', rfl, rfl, hl, hg, hc0, hc1⟩
    rw [List.length_range] at *
    simp_arith
    exact ⟨_, ds, _, ⟨by omega, by omega, by omega, hg⟩, hc0, by omega, rfl⟩
theorem getElem?_range {n i y : Nat} (h : (List.range n)[i]? = some y) : i < n ∧ y = i := by
  obtain ⟨h1, h2⟩ := List.getElem?_eq_some_iff.mp h
  rw [List.length_range] at h1
  rw [List.getElem_range] at h2
  exact ⟨h1, h2.symm⟩
theorem plain_spec {row : List Int} {t c most : Int} (h0 : 0 ≤ c) (h1 : c ≤ 1000000) (hm : 0 ≤ most) (hm2 : most ≤ 100) : W (m__law_plain [dl row t, .d (.int 6), .d (.int most)] [ck c]) fun p => ∃ n ms c', WebOk most n ms ∧ c ≤ c' ∧ c' ≤ c + 300 ∧ p = (.d (webD n ms), [ck c']) := by
  unfold m__law_plain
  rw [fnD_eq 3 7 b__law_plain _ _ rfl]
  unfold b__law_plain
  simp_arith
  refine W.step (take_spec (by omega) (by omega) (by omega)) ?_
  rintro _ ⟨n, n0, n1, rfl⟩
  simp_arith
  refine W.step (take_spec (by omega) (by omega) (by omega)) ?_
  rintro _ ⟨w, w0, w1, rfl⟩
  simp_arith
  refine W.rg ⟨by omega, by omega⟩ ?_
  simp_arith
  refine W.loop (fun i ρ m => ∃ x6 x7 ds c', ρ = [some (dl row t), some (.d (.int 6)), some (.d (.int most)), some (.d (.int n)), some (.d (.int (1 + w))), some (.own 1), x6, x7, none, none] ∧ m = [ck c', .lst (ds.map pairD)] ∧ (ds.length : Int) ≤ most ∧ Good n ds ∧ c ≤ c' ∧ c' ≤ c + 2 + 10 * i) ?_ ?_ ?_
  · exact ⟨_, _, [], _, rfl, rfl, by simp; omega, good_nil _, by omega, by omega⟩
  · rintro i y hy ρ m ⟨x6, x7, ds, c', rfl, rfl, hl, hg, hc0, hc1⟩
    obtain ⟨hi, rfl⟩ := getElem?_range hy
    refine ⟨_, rfl, ?_⟩
    simp_arith
    refine W.eq (iRange2_eq (a := (y : Int) + 1) (n := n) (e := .d (.int ((y : Int) + 1))) (e' := .d (.int n)) rfl rfl rfl rfl ⟨by omega, by omega, by omega, by omega⟩) ?_
    simp_arith
    refine W.bnd (W.loop (fun j ρ m => ∃ x7 ds c2, ρ = [some (dl row t), some (.d (.int 6)), some (.d (.int most)), some (.d (.int n)), some (.d (.int (1 + w))), some (.own 1), some (.d (.int y)), x7, none, none] ∧ m = [ck c2, .lst (ds.map pairD)] ∧ (ds.length : Int) ≤ most ∧ Good n ds ∧ c' ≤ c2 ∧ c2 ≤ c' + j) ?_ ?_ ?_)
    · exact ⟨_, ds, _, rfl, rfl, hl, hg, by omega, by omega⟩
    · rintro j z hz ρ m ⟨x7, ds, c2, rfl, rfl, hl, hg, hd0, hd1⟩
      obtain ⟨hj, rfl⟩ := getElem?_range hz
      refine ⟨_, rfl, ?_⟩
      simp_arith
      refine W.step (take_spec (by omega) (by omega) (by omega)) ?_
      rintro _ ⟨a, a0, a1, rfl⟩
      simp_arith
      by_cases e1 : a < 1 + w
      · rw [decide_eq_true e1]
        simp_arith
        by_cases e2 : (ds.length : Int) < most
        · rw [decide_eq_true e2]
          simp_arith
          rw [if_pos (by unfold big; omega)]
          simp_arith
          exact ⟨goes_nx, _, ds ++ [((y : Int), (y : Int) + 1 + z)], _, rfl, by rw [List.map_append]; rfl, by simp; omega, hg.snoc ⟨by simp, by simp; omega, by simp; omega⟩, by omega, by omega⟩
        · rw [decide_eq_false e2]
          simp_arith
          exact ⟨goes_nx, _, ds, _, rfl, rfl, hl, hg, by omega, by omega⟩
      · rw [decide_eq_false e1]
        simp_arith
        exact ⟨goes_nx, _, ds, _, rfl, rfl, hl, hg, by omega, by omega⟩
    · rintro ρ m ⟨x7, ds, c2, rfl, rfl, hl, hg, hd0, hd1⟩
      rw [List.length_range] at *
      simp_arith
      exact ⟨goes_nx, _, _, ds, _, rfl, rfl, hl, hg, by omega, by omega⟩
  · rintro ρ m ⟨x6, x7, ds, c', rfl, rfl, hl, hg, hc0, hc1⟩
    rw [List.length_range] at *
    simp_arith
    refine W.step (take_spec (by omega) (by omega) (by omega)) ?_
    rintro _ ⟨z, z0, z1, rfl⟩
    simp_arith
    refine W.rg ⟨by omega, by omega⟩ ?_
    simp_arith
    refine W.loop (fun i ρ m => ∃ x5 x6 x7 x8 x9 ds c2 l, ρ = [some (dl row t), some (.d (.int 6)), some (.d (.int most)), some (.d (.int n)), some (.d (.int (1 + w))), some x5, x6, x7, x8, x9] ∧ m = [ck c2, .lst l] ∧ ((x5 = .own 1 ∧ l = ds.map pairD) ∨ x5 = .d (.lst (ds.map pairD))) ∧ (ds.length : Int) ≤ most ∧ Good n ds ∧ c' ≤ c2 ∧ c2 ≤ c' + 1 + i) ?_ ?_ ?_
    · exact ⟨_, _, _, _, _, ds, _, _, rfl, rfl, .inl ⟨rfl, rfl⟩, hl, hg, by omega, by omega⟩
    · rintro j z hz ρ m ⟨x5, x6, x7, x8, x9, ds, c2, l, rfl, rfl, hx, hl, hg, hd0, hd1⟩
      obtain ⟨hj, rfl⟩ := getElem?_range hz
      refine ⟨_, rfl, ?_⟩
      have fact : ∀ s : Int, 0 ≤ s → cutD (ds.map pairD) (some s) none ++ cutD (ds.map pairD) none (some s) = (ds.drop s.toNat ++ ds.take s.toNat).map pairD := fun s hs => by
        rw [cutD_from _ _ hs, cutD_to _ _ hs, List.map_append, List.map_drop, List.map_take]
      have fact2 : ∀ s : Int, 0 ≤ s → (ds.drop s.toNat ++ ds.take s.toNat).length = ds.length := fun s hs => by
        rw [List.length_append, List.length_drop, List.length_take]; omega
      have fact3 : ∀ s : Int, Good n (ds.drop s.toNat ++ ds.take s.toNat) := fun s q hq => by
        rcases List.mem_append.mp hq with hq | hq
        · exact hg q (List.mem_of_mem_drop hq)
        · exact hg q (List.mem_of_mem_take hq)
      have fact4 : ∀ s : Int, 0 ≤ s → opAdd (.lst (cutD (ds.map pairD) (some s) none)) (.lst (cutD (ds.map pairD) none (some s))) = some (.lst ((ds.drop s.toNat ++ ds.take s.toNat).map pairD)) := fun s hs => by
        rw [opAdd_ll, fact s hs]
        rw [← List.length_append, fact s hs, List.length_map, fact2 s hs]
        omega
      rcases hx with ⟨rfl, rfl⟩ | rfl
      all_goals
        simp_arith
        by_cases e1 : (1 : Int) < (ds.length : Int)
        · rw [decide_eq_true e1]
          simp_arith
          refine W.step (take_spec (by omega) (by omega) (by omega)) ?_
          rintro _ ⟨s, s0, s1, rfl⟩
          simp_arith [fact4 s s0]
          exact ⟨goes_nx, _, _, _, _, _, ds.drop s.toNat ++ ds.take s.toNat, _, _, rfl, rfl, .inr rfl, by rw [fact2 s s0]; exact hl, fact3 s, by omega, by omega⟩
        · rw [decide_eq_false e1]
          simp_arith
          first
          | exact ⟨goes_nx, _, _, _, _, _, ds, _, _, rfl, rfl, .inr rfl, hl, hg, by omega, by omega⟩
          | exact ⟨goes_nx, _, _, _, _, _, ds, _, _, rfl, rfl, .inl ⟨rfl, rfl⟩, hl, hg, by omega, by omega⟩
    · rintro ρ m ⟨x5, x6, x7, x8, x9, ds, c2, l, rfl, rfl, hx, hl, hg, hd0, hd1⟩
      rw [List.length_range] at *
      rcases hx with ⟨rfl, rfl⟩ | rfl
      all_goals
        simp_arith
        exact ⟨_, ds, _, ⟨by omega, by omega, by omega, hg⟩, by omega, by omega, rfl⟩
theorem any_spec {row : List Int} {t c most : Int} (h0 : 0 ≤ c) (h1 : c ≤ 900000) (hm : 0 ≤ most) (hm2 : most ≤ 100) : W (m__law_any [dl row t, .d (.int most)] [ck c]) fun p => ∃ n ms c', WebOk most n ms ∧ c ≤ c' ∧ c' ≤ c + 301 ∧ p = (.d (webD n ms), [ck c']) := by
  unfold m__law_any
  rw [fnD_eq 2 5 b__law_any _ _ rfl]
  unfold b__law_any
  simp_arith
  refine W.step (take_spec (by omega) (by omega) (by omega)) ?_
  rintro _ ⟨v, v0, v1, rfl⟩
  simp_arith
  by_cases e1 : v = 0
  · rw [decide_eq_true e1]
    simp_arith
    refine W.step (plain_spec (by omega) (by omega) hm hm2) ?_
    rintro _ ⟨n, ms, c', hw, hc0, hc1, rfl⟩
    simp_arith [webD]
    exact ⟨n, ms, c', hw, by omega, by omega, rfl⟩
  · rw [decide_eq_false e1]
    simp_arith
    by_cases e2 : v = 1
    · rw [decide_eq_true e2]
      simp_arith
      refine W.step (sided_spec (by omega) (by omega) hm hm2 (by omega) (by omega)) ?_
      rintro _ ⟨n, ms, c', hw, hc0, hc1, rfl⟩
      simp_arith [webD]
      exact ⟨n, ms, c', hw, by omega, by omega, rfl⟩
    · rw [decide_eq_false e2]
      simp_arith
      refine W.step (take_spec (by omega) (by omega) (by omega)) ?_
      rintro _ ⟨w, w0, w1, rfl⟩
      simp_arith
      refine W.step (take_spec (by omega) (by omega) (by omega)) ?_
      rintro _ ⟨z, z0, z1, rfl⟩
      simp_arith
      refine W.rg ⟨by omega, by omega⟩ ?_
      simp_arith
      refine W.loop (fun i ρ m => ∃ x5 x6 ds c', ρ = [some (dl row t), some (.d (.int most)), some (.d (.int v)), some (.d (.int (2 + w))), some (.own 1), x5, x6] ∧ m = [ck c', .lst (ds.map pairD)] ∧ (ds.length : Int) ≤ i ∧ Good (2 + w) ds ∧ c ≤ c' ∧ c' ≤ c + 3 + 2 * i) ?_ ?_ ?_
      · exact ⟨_, _, [], _, rfl, rfl, by simp, good_nil _, by omega, by omega⟩
      · rintro i y hy ρ m ⟨x5, x6, ds, c', rfl, rfl, hl, hg, hc0, hc1⟩
        obtain ⟨hi, rfl⟩ := getElem?_range hy
        refine ⟨_, rfl, ?_⟩
        simp_arith
        refine W.step (take_spec (by omega) (by omega) (by omega)) ?_
        rintro _ ⟨a, a0, a1, rfl⟩
        simp_arith
        refine W.step (take_spec (by omega) (by omega) (by omega)) ?_
        rintro _ ⟨b, b0, b1, rfl⟩
        simp_arith
        rw [if_pos (by unfold big; omega)]
        simp_arith
        refine ⟨goes_nx, _, _, ds ++ [(a, a + 1 + b)], _, rfl, by rw [List.map_append]; rfl, by simp; omega, hg.snoc ⟨by omega, by simp; omega, by simp; omega⟩, by omega, by omega⟩
      · rintro ρ m ⟨x5, x6, ds, c', rfl, rfl, hl, hg, hc0, hc1⟩
        rw [List.length_range] at *
        simp_arith
        exact ⟨_, ds, _, ⟨by omega, by omega, by omega, hg⟩, hc0, by omega, rfl⟩
theorem web_spec {row : List Int} {t c most : Int} (h0 : 0 ≤ c) (h1 : c ≤ 800000) (hm : 3 ≤ most) (hm2 : most ≤ 100) : W (m__law_web [dl row t, .d (.int most)] [ck c]) fun p => ∃ n ms c', WebOk most n ms ∧ c ≤ c' ∧ c' ≤ c + 302 ∧ p = (.d (webD n ms), [ck c']) := by
  unfold m__law_web
  rw [fnD_eq 2 0 b__law_web _ _ rfl]
  unfold b__law_web
  simp_arith
  refine W.step (take_spec (by omega) (by omega) (by omega)) ?_
  rintro _ ⟨v, v0, v1, rfl⟩
  simp_arith
  by_cases e1 : v = 0
  · rw [decide_eq_true e1]
    simp_arith
    refine W.step (few_spec (by omega) (by omega) hm) ?_
    rintro _ ⟨n, ms, c', hw, hc0, hc1, rfl⟩
    simp_arith [webD]
    exact ⟨n, ms, c', hw, by omega, by omega, rfl⟩
  · rw [decide_eq_false e1]
    simp_arith
    refine W.step (any_spec (by omega) (by omega) (by omega) hm2) ?_
    rintro _ ⟨n, ms, c', hw, hc0, hc1, rfl⟩
    simp_arith [webD]
    exact ⟨n, ms, c', hw, by omega, by omega, rfl⟩
theorem filter_range {α β : Type} (xs : List α) (d : α) (c : α → Bool) (f : α → β) : ((List.range xs.length).filter fun i => c (xs.getD i d)).map (fun i => f (xs.getD i d)) = (xs.filter c).map f := by
  have e : xs = (List.range xs.length).map fun i => xs.getD i d := by
    refine List.ext_getElem? fun i => ?_
    rw [List.getElem?_map]
    by_cases h : i < xs.length
    · rw [List.getElem?_range h, List.getElem?_eq_getElem h]
      simp [h]
    · rw [List.getElem?_eq_none (by omega), List.getElem?_eq_none (by rw [List.length_range]; omega)]
      rfl
  conv => rhs; rw [e, List.filter_map, List.map_map]
  rfl
theorem meets_count (ms : Ms) (p : Int) : (meets ms p).length = (ms.filter fun q => decide (p = q.1 ∨ p = q.2)).length := by
  have := congrArg List.length (filter_range ms (0, 0) (fun q => decide (p = q.1 ∨ p = q.2)) id)
  rw [List.length_map, List.length_map] at this
  unfold meets
  rw [List.length_map, ← this]
  rfl
theorem foldl_max0 (xs : List Int) (h : ∀ x ∈ xs, 0 ≤ x) : maxZ (0 :: xs) = if xs = [] then 0 else maxZ xs := by
  cases xs with
  | nil => rfl
  | cons x xs =>
    rw [if_neg (by simp)]
    unfold maxZ maxI
    show (((x :: xs).foldl _ 0)) = _
    rw [List.foldl_cons]
    have h0 := h x List.mem_cons_self
    by_cases hx : (0 : Int) < x
    · rw [if_pos hx]; rfl
    · rw [if_neg hx, show x = 0 by omega]; rfl
theorem ms_items {n : Int} {ms : Ms} {i : Nat} {ρ : Rho} {m : Store} (h : ρ[i]? = some (some (.d (webD n ms)))) : iSeq (eBin gIx (eV i) (eC (.int 1))) ρ m = some (ms.map pairD, m) := by
  refine iSeq_eq (d := .tup (ms.map pairD)) ?_ rfl
  unfold eBin eV eC
  rw [h]
  rfl
theorem opIx_pair0 (p : Int × Int) : opIx (pairD p) (.int 0) = some (.int p.1) := rfl
theorem opIx_pair1 (p : Int × Int) : opIx (pairD p) (.int 1) = some (.int p.2) := rfl
theorem law_bool_eq (a b : Bool) (m : Store) : m__law_bool [.d (.bl a), .d (.bl b)] m = some (.d (.bl (decide (a = b))), m) := by
  unfold m__law_bool
  rw [fnD_eq 2 0 b__law_bool _ m rfl]
  unfold b__law_bool
  have e : isKind "bool" "bool" = true := by decide
  simp_arith [eIsi, kindD, e]
theorem filter_count (xs : List Int) (c : Int) : (xs.filter fun d => decide (d = c)).length = xs.count c := by
  rw [List.count_eq_countP, List.countP_eq_length_filter]
  congr 1
theorem counts_mine (ms : Ms) (weeks : List Int) (k p : Int) : counts (mine ms weeks p) k = wcounts ms weeks k p := by
  unfold counts wcounts
  exact List.map_congr_left fun c _ => by rw [filter_count]
theorem opSl_p (w : List Int) (a b : Option Int) : opSl (planD w) a b = some (planD (cutD w a b)) := by
  unfold planD
  rw [← cutD_map]
  rfl
theorem one_p (x : Int) : D.tup [.int x] = planD [x] := rfl
theorem opRev_p (w : List Int) : opRev (planD w) = some (planD w.reverse) := by
  unfold planD
  rw [List.map_reverse]
  rfl
theorem opAdd_pp (a b : List Int) (h : a.length + b.length ≤ 1000000) : opAdd (planD a) (planD b) = some (planD (a ++ b)) := by
  unfold planD
  rw [opAdd_tt _ _ (by rw [List.length_map, List.length_map]; exact h), List.map_append]
theorem opMulA_rep (xs : List D) (k : Int) (h : -(2 ^ 63) ≤ k ∧ k < 2 ^ 63 ∧ xs.length * k.toNat ≤ big) : opMulA (.lst xs) (.int k) = some (.lst (List.replicate k.toNat xs).flatten) := if_pos (okP_true h)
theorem opMul_zeros (n : Nat) (h : n ≤ 1000000) : opMulA (.lst [.int 0]) (.int n) = some (.lst ((List.replicate n (0 : Int)).map .int)) := by
  rw [opMulA_rep [.int 0] n ⟨by omega, by omega, by rw [List.length_singleton, Int.toNat_natCast]; unfold big; omega⟩, Int.toNat_natCast]
  congr 2
  induction n with
  | zero => rfl
  | succ n ih =>
    rw [List.replicate_succ, List.flatten_cons, ih (by omega)]
    rfl
theorem opTuple_li (xs : List Int) : opTuple (.lst (xs.map .int)) = some (planD xs) := rfl
theorem cutD_len {α : Type} (xs : List α) (a b : Option Int) : (cutD xs a b).length ≤ xs.length := cutD_le xs a b
theorem put_len (w : List Int) (v x : Int) (h0 : 0 ≤ v) : (cutD w none (some v) ++ [x] ++ cutD w (some (v + 1)) none).length ≤ w.length + 1 := by
  rw [cutD_to _ _ h0, cutD_from _ _ (by omega)]
  simp
  omega
theorem pys_ints : ∀ xs : List Int, ∃ ps, pys (xs.map .int) = some ps
  | [] => ⟨[], by simp [pys]⟩
  | x :: xs => by
    obtain ⟨ps, h⟩ := pys_ints xs
    exact ⟨.int x :: ps, by simp [pys, py, h]⟩
theorem depDs_ints : ∀ xs : List Int, depDs (xs.map .int) = 0
  | [] => by simp [depDs]
  | x :: xs => by simp [depDs, depD, depDs_ints xs]
theorem inD_ints (x : Int) (xs : List Int) : inD (.int x) (.lst (xs.map .int)) = some (decide (x ∈ xs)) := by
  unfold inD
  obtain ⟨ps, h⟩ := pys_ints xs
  simp [itemsOf, py, h, depD, depDs_ints]
theorem opIn_ints (x : Int) (xs : List Int) : opIn (.int x) (.lst (xs.map .int)) = some (.bl (decide (x ∈ xs))) := by
  unfold opIn; rw [inD_ints]; rfl
theorem opNotIn_ints (x : Int) (xs : List Int) : opNotIn (.int x) (.lst (xs.map .int)) = some (.bl (!decide (x ∈ xs))) := by
  unfold opNotIn; rw [inD_ints]; rfl
theorem maxZ_spec {xs : List Int} (h : xs ≠ []) : maxZ xs ∈ xs ∧ ∀ x ∈ xs, x ≤ maxZ xs := by
  cases xs with
  | nil => exact absurd rfl h
  | cons x xs =>
    obtain ⟨h1, h2, h3⟩ := foldmax xs x
    refine ⟨?_, fun y hy => ?_⟩
    · rcases h1 with h1 | h1
      · show (xs.foldl _ x) ∈ _
        rw [h1]; exact List.mem_cons_self
      · exact List.mem_cons_of_mem _ h1
    · rcases List.mem_cons.mp hy with rfl | hy
      · exact h2
      · exact h3 y hy
theorem minZ_spec {xs : List Int} (h : xs ≠ []) : minZ xs ∈ xs ∧ ∀ x ∈ xs, minZ xs ≤ x := by
  cases xs with
  | nil => exact absurd rfl h
  | cons x xs =>
    obtain ⟨h1, h2, h3⟩ := foldmin xs x
    refine ⟨?_, fun y hy => ?_⟩
    · rcases h1 with h1 | h1
      · show (xs.foldl _ x) ∈ _
        rw [h1]; exact List.mem_cons_self
      · exact List.mem_cons_of_mem _ h1
    · rcases List.mem_cons.mp hy with rfl | hy
      · exact h2
      · exact h3 y hy
theorem range_filter_lt {c : Nat → Bool} {i n : Nat} (hi : i < n) (hc : c i = true) : ((List.range i).filter c).length + 1 ≤ ((List.range n).filter c).length := by
  have : (List.range (i + 1)).filter c = (List.range i).filter c ++ [i] := by
    rw [List.range_succ, List.filter_append, List.filter_cons, hc]
    rfl
  have h2 : ((List.range (i + 1)).filter c).Sublist ((List.range n).filter c) := (List.range_sublist.mpr hi).filter c
  have := h2.length_le
  rw [‹(List.range (i + 1)).filter c = _›, List.length_append] at this
  exact this
theorem filter_or_le {α : Type} (c d e : α → Bool) (l : List α) (h : ∀ x ∈ l, e x = true → c x = true ∨ d x = true) : (l.filter e).length ≤ (l.filter c).length + (l.filter d).length := by
  induction l with
  | nil => simp
  | cons x xs ih =>
    have ih := ih fun y hy => h y (List.mem_cons_of_mem _ hy)
    rw [List.filter_cons, List.filter_cons, List.filter_cons]
    have hx := h x List.mem_cons_self
    cases e1 : e x with
    | false =>
      rw [if_neg Bool.false_ne_true]
      split <;> split <;> simp <;> omega
    | true =>
      rw [if_pos rfl]
      rcases hx e1 with h1 | h1
      · rw [if_pos h1]; split <;> simp <;> omega
      · rw [if_pos h1]; split <;> simp <;> omega
theorem load_le {n : Int} {ms : Ms} {p : Int} (h0 : 0 ≤ p) (h1 : p < n) : ((meets ms p).length : Int) ≤ gload n ms := by
  refine (maxZ_spec (xs := 0 :: loads n ms) (by simp)).2 _ (List.mem_cons_of_mem _ ?_)
  unfold loads
  exact List.mem_map.mpr ⟨p.toNat, List.mem_range.mpr (by omega), by rw [Int.toNat_of_nonneg h0]⟩
theorem pr_mem {ms : Ms} {i : Nat} (h : i < ms.length) : pr ms i ∈ ms := by
  unfold pr
  rw [List.getD_eq_getElem?_getD, List.getElem?_eq_getElem h]
  exact List.getElem_mem h
theorem used_le {n : Int} {ms : Ms} (hg : Good n ms) {i : Nat} (hi : i < ms.length) : (((List.range i).filter fun j => clashB (pr ms i) (pr ms j)).length : Int) ≤ 2 * gload n ms - 2 := by
  have hp := hg _ (pr_mem hi)
  have h1 := filter_or_le (fun j => decide ((pr ms i).1 = (pr ms j).1 ∨ (pr ms i).1 = (pr ms j).2)) (fun j => decide ((pr ms i).2 = (pr ms j).1 ∨ (pr ms i).2 = (pr ms j).2)) (fun j => clashB (pr ms i) (pr ms j)) (List.range i) fun j _ h => by
    unfold clashB at h
    have := of_decide_eq_true h
    rcases this with h | h
    · exact .inl (decide_eq_true h)
    · exact .inr (decide_eq_true h)
  have h2 := range_filter_lt (c := fun j => decide ((pr ms i).1 = (pr ms j).1 ∨ (pr ms i).1 = (pr ms j).2)) hi (decide_eq_true (.inl rfl))
  have h3 := range_filter_lt (c := fun j => decide ((pr ms i).2 = (pr ms j).1 ∨ (pr ms i).2 = (pr ms j).2)) hi (decide_eq_true (.inr rfl))
  have h4 := load_le (n := n) (ms := ms) (p := (pr ms i).1) hp.1 (by omega)
  have h5 := load_le (n := n) (ms := ms) (p := (pr ms i).2) (by omega) hp.2.2
  unfold meets at h4 h5
  rw [List.length_map] at h4 h5
  omega
theorem free_ne (used : List Int) (k : Nat) (h : used.length < k) : ((List.range k).filter fun (x : Nat) => !decide ((x : Int) ∈ used)) ≠ [] := by
  intro z
  have sub : ((List.range k).map fun (x : Nat) => (x : Int)) ⊆ used := fun y hy => by
    obtain ⟨x, hx, rfl⟩ := List.mem_map.mp hy
    have := List.filter_eq_nil_iff.mp z x hx
    by_cases q : (x : Int) ∈ used
    · exact q
    · rw [decide_eq_false q] at this
      exact absurd rfl this
  have nd : ((List.range k).map fun (x : Nat) => (x : Int)).Nodup := by
    rw [List.nodup_iff_pairwise_ne, List.pairwise_map]
    exact (List.nodup_iff_pairwise_ne.mp List.nodup_range).imp fun h e => h (by omega)
  have := List.Nodup.length_le_of_subset nd sub
  rw [List.length_map, List.length_range] at this
  omega
theorem distinct_from : ∀ (l s : List Int), s.Nodup → (l.foldl PyProof.Rows.step_dedup s).Nodup ∧ ∀ x, x ∈ l.foldl PyProof.Rows.step_dedup s ↔ x ∈ s ∨ x ∈ l
  | [], s, h => ⟨h, fun x => by simp⟩
  | a :: l, s, h => by
    rw [List.foldl_cons]
    have e : PyProof.Rows.step_dedup s a = if a ∈ s then s else s ++ [a] := by
      unfold PyProof.Rows.step_dedup
      by_cases q : a ∈ s
      · rw [if_pos q, if_pos]
        exact List.any_eq_true.mpr ⟨a, q, by simp⟩
      · rw [if_neg q, if_neg]
        intro z
        obtain ⟨b, hb, hc⟩ := List.any_eq_true.mp z
        exact q (by rw [← of_decide_eq_true hc]; exact hb)
    rw [e]
    by_cases q : a ∈ s
    · rw [if_pos q]
      obtain ⟨h1, h2⟩ := distinct_from l s h
      refine ⟨h1, fun x => ?_⟩
      rw [h2, List.mem_cons]
      exact ⟨fun z => z.elim .inl fun z => .inr (.inr z), fun z => z.elim .inl fun z => z.elim (fun z => .inl (by rw [z]; exact q)) .inr⟩
    · rw [if_neg q]
      have nd : (s ++ [a]).Nodup := by
        rw [List.nodup_append]
        refine ⟨h, by simp, fun x hx y hy => ?_⟩
        rw [List.mem_singleton] at hy
        exact fun z => q (by rw [← hy, ← z]; exact hx)
      obtain ⟨h1, h2⟩ := distinct_from l _ nd
      refine ⟨h1, fun x => ?_⟩
      rw [h2, List.mem_cons, List.mem_append, List.mem_singleton]
      exact ⟨fun z => z.elim (fun z => z.elim .inl fun z => .inr (.inl z)) fun z => .inr (.inr z), fun z => z.elim (fun z => .inl (.inl z)) fun z => z.elim (fun z => .inl (.inr z)) .inr⟩
theorem distinct_nodup (l : List Int) : (distinct l).Nodup := (distinct_from l [] (by simp)).1
theorem mem_distinct (l : List Int) (x : Int) : x ∈ distinct l ↔ x ∈ l := by
  unfold distinct
  rw [(distinct_from l [] (by simp)).2]
  simp
theorem stretch_iff (l : List Int) : (l ≠ [] → maxZ l - minZ l + 1 = ((distinct l).length : Int)) ↔ ∀ d ∈ l, d = maxZ l ∨ d + 1 ∈ l := by
  by_cases e : l = []
  · rw [e]; simp
  obtain ⟨M1, M2⟩ := maxZ_spec e
  obtain ⟨m1, m2⟩ := minZ_spec e
  have hmm := M2 _ m1
  have ndR : ((List.range (maxZ l - minZ l + 1).toNat).map fun (i : Nat) => minZ l + (i : Int)).Nodup := by
    rw [List.nodup_iff_pairwise_ne, List.pairwise_map]
    exact (List.nodup_iff_pairwise_ne.mp List.nodup_range).imp fun h e => h (by omega)
  have lenR : ((List.range (maxZ l - minZ l + 1).toNat).map fun (i : Nat) => minZ l + (i : Int)).length = (maxZ l - minZ l + 1).toNat := by simp
  have memR : ∀ x, x ∈ ((List.range (maxZ l - minZ l + 1).toNat).map fun (i : Nat) => minZ l + (i : Int)) ↔ minZ l ≤ x ∧ x ≤ maxZ l := fun x => by
    rw [List.mem_map]
    constructor
    · rintro ⟨i, hi, rfl⟩
      have := List.mem_range.mp hi
      omega
    · rintro ⟨a, b⟩
      exact ⟨(x - minZ l).toNat, List.mem_range.mpr (by omega), by omega⟩
  have sub : distinct l ⊆ ((List.range (maxZ l - minZ l + 1).toNat).map fun (i : Nat) => minZ l + (i : Int)) := fun x hx => (memR x).mpr ⟨m2 x ((mem_distinct l x).mp hx), M2 x ((mem_distinct l x).mp hx)⟩
  constructor
  · intro h d hd
    have h := h e
    by_cases c : d = maxZ l
    · exact .inl c
    · refine .inr (Classical.byContradiction fun z => ?_)
      have nd : ((d + 1) :: distinct l).Nodup := List.nodup_cons.mpr ⟨fun w => z ((mem_distinct l _).mp w), distinct_nodup l⟩
      have := List.Nodup.length_le_of_subset nd (l₂ := (List.range (maxZ l - minZ l + 1).toNat).map (fun (i : Nat) => minZ l + (i : Int))) fun x hx => by
        rcases List.mem_cons.mp hx with rfl | hx
        · have := M2 d hd
          have := m2 d hd
          exact (memR _).mpr ⟨by omega, by omega⟩
        · exact sub hx
      rw [lenR, List.length_cons] at this
      omega
  · intro h _
    have up : ∀ k : Nat, minZ l + (k : Int) ≤ maxZ l → minZ l + (k : Int) ∈ l := fun k => by
      induction k with
      | zero => intro _; simpa using m1
      | succ k ih =>
        intro hk
        rcases h _ (ih (by omega)) with c | c
        · omega
        · rw [show minZ l + ((k + 1 : Nat) : Int) = minZ l + (k : Int) + 1 by omega]; exact c
    have sub2 : ((List.range (maxZ l - minZ l + 1).toNat).map fun (i : Nat) => minZ l + (i : Int)) ⊆ distinct l := fun x hx => by
      obtain ⟨a, b⟩ := (memR x).mp hx
      have := up (x - minZ l).toNat (by omega)
      rw [show minZ l + ((x - minZ l).toNat : Int) = x by omega] at this
      exact (mem_distinct l x).mpr this
    have h1 := List.Nodup.length_le_of_subset ndR sub2
    have h2 := List.Nodup.length_le_of_subset (distinct_nodup l) sub
    rw [lenR] at h1 h2
    omega
def St (ms : Ms) (row : List Int) (p : Nat) : Prop := ∀ d ∈ mine ms row p, d = maxZ (mine ms row p) ∨ d + 1 ∈ mine ms row p
theorem take_all {xs : List Int} {P : Int → Prop} {j : Nat} {y : Int} (h : xs[j]? = some y) : (∀ d ∈ xs.take (j + 1), P d) ↔ (∀ d ∈ xs.take j, P d) ∧ P y := by
  rw [List.take_succ, h]
  simp only [Option.toList_some, List.mem_append, List.mem_singleton]
  exact ⟨fun z => ⟨fun d hd => z d (.inl hd), z y (.inr rfl)⟩, fun z d hd => hd.elim (z.1 d) fun e => by rw [e]; exact z.2⟩
theorem big_ok {n : Int} (h : -1000000 ≤ n) (h2 : n ≤ 1000000) : okP (-(big : Int) ≤ n ∧ n ≤ (big : Int)) = true := by
  have hb : (big : Int) = 1000000 := rfl
  exact okP_true ⟨by omega, by omega⟩
theorem itemsOf_p (xs : List Int) : itemsOf (planD xs) = some (xs.map .int) := rfl
theorem W.toEq {α : Type} {o : Option α} {a : α} (h : W o fun x => x = a) : o = some a := by
  obtain ⟨b, e, q⟩ := h
  rw [e, q]
theorem count_range (k c : Nat) : (((List.range k).map fun (i : Nat) => (i : Int)).filter fun d => decide (d = (c : Int))).length = if c < k then 1 else 0 := by
  induction k with
  | zero => rfl
  | succ k ih =>
    have e : ((List.filter (fun d : Int => decide (d = (c : Int))) [(k : Int)])).length = if k = c then 1 else 0 := by
      rw [List.filter_cons]
      by_cases h : k = c
      · rw [if_pos (decide_eq_true (by omega)), if_pos h]; rfl
      · rw [if_neg (by simp; omega), if_neg h]; rfl
    rw [List.range_succ, List.map_append, List.filter_append, List.length_append, ih]
    show _ + (List.filter (fun d : Int => decide (d = (c : Int))) [(k : Int)]).length = _
    rw [e]
    split <;> split <;> split <;> omega
def even (k r : Nat) : List Int := (List.replicate r ((List.range k).map fun (i : Nat) => (i : Int))).flatten
theorem even_len (k r : Nat) : (even k r).length = r * k := by
  unfold even
  induction r with
  | zero => simp
  | succ r ih => rw [List.replicate_succ, List.flatten_cons, List.length_append, ih, List.length_map, List.length_range, Nat.succ_mul, Nat.add_comm]
theorem even_count (k r c : Nat) (h : c < k) : ((even k r).filter fun d => decide (d = (c : Int))).length = r := by
  unfold even
  induction r with
  | zero => rfl
  | succ r ih => rw [List.replicate_succ, List.flatten_cons, List.filter_append, List.length_append, ih, count_range, if_pos h, Nat.add_comm]
theorem even_more (k r : Nat) (l : List Int) : counts (even k r ++ l) (k : Int) = (List.range k).map fun (c : Nat) => ((r + (l.filter fun d => decide (d = (c : Int))).length : Nat) : Int) := by
  unfold counts
  rw [Int.toNat_natCast]
  refine List.map_congr_left fun c hc => ?_
  rw [List.filter_append, List.length_append, even_count k r c (List.mem_range.mp hc)]
theorem even_one (k r : Nat) (v : Int) (hk : 1 ≤ k) : maxZ (counts (even k r ++ [v]) k) - minZ (counts (even k r ++ [v]) k) < 2 := by
  have hne : counts (even k r ++ [v]) (k : Int) ≠ [] := counts_ne (by omega)
  have h1 := (maxZ_spec hne).1
  have h2 := (minZ_spec hne).1
  generalize maxZ (counts (even k r ++ [v]) k) = M at *
  generalize minZ (counts (even k r ++ [v]) k) = N at *
  rw [even_more] at h1 h2
  obtain ⟨a, _, rfl⟩ := List.mem_map.mp h1
  obtain ⟨b, _, rfl⟩ := List.mem_map.mp h2
  have := List.length_filter_le (fun d => decide (d = (a : Int))) [v]
  rw [List.length_singleton] at this
  omega
theorem even_two (k r : Nat) (v : Int) (hk : 1 ≤ k) (v0 : 0 ≤ v) (v1 : v < k) : (maxZ (counts (even k r ++ [v, v]) k) - minZ (counts (even k r ++ [v, v]) k) < 2) ↔ ((k : Int) = 1) := by
  have hne : counts (even k r ++ [v, v]) (k : Int) ≠ [] := counts_ne (by omega)
  have h1 := maxZ_spec hne
  have h2 := minZ_spec hne
  generalize maxZ (counts (even k r ++ [v, v]) k) = M at *
  generalize minZ (counts (even k r ++ [v, v]) k) = N at *
  rw [even_more] at h1 h2
  constructor
  · intro h
    refine Classical.byContradiction fun z => ?_
    have a1 := h1.2 _ (List.mem_map.mpr ⟨v.toNat, List.mem_range.mpr (by omega), rfl⟩)
    have e1 : ((fun (d : Int) => decide (d = (v.toNat : Int))) v) = true := decide_eq_true (by omega)
    have : ∃ w : Nat, w < k ∧ (w : Int) ≠ v := by
      by_cases q : v = 0
      · exact ⟨1, by omega, by omega⟩
      · exact ⟨0, by omega, by omega⟩
    obtain ⟨w, hw, hwv⟩ := this
    have a2 := h2.2 _ (List.mem_map.mpr ⟨w, List.mem_range.mpr hw, rfl⟩)
    have f1 : ([v, v].filter fun d => decide (d = (v.toNat : Int))).length = 2 := by
      rw [List.filter_cons, if_pos e1, List.filter_cons, if_pos e1]; rfl
    have f2 : ([v, v].filter fun d => decide (d = (w : Int))).length = 0 := by
      rw [List.filter_cons, if_neg (by simp; omega), List.filter_cons, if_neg (by simp; omega)]; rfl
    rw [f1] at a1
    rw [f2] at a2
    omega
  · intro h
    obtain ⟨a, ha, e1⟩ := List.mem_map.mp h1.1
    obtain ⟨b, hb, e2⟩ := List.mem_map.mp h2.1
    have ha := List.mem_range.mp ha
    have hb := List.mem_range.mp hb
    have : a = b := by omega
    rw [← e1, ← e2, this]
    omega
theorem opRep_range (k r : Nat) (h : r * k ≤ 1000) (hk : k ≤ 1000) (hr : r ≤ 1000) : opMulA (.lst (rangeE 0 k)) (.int r) = some (.lst ((even k r).map .int)) := by
  rw [opMulA_rep _ _ ⟨by omega, by omega, by rw [rangeE_length, Int.toNat_natCast, Nat.mul_comm]; unfold big; omega⟩, Int.toNat_natCast, rangeE_zero]
  congr 2
  unfold even
  clear h hr
  induction r with
  | zero => rfl
  | succ r ih =>
    rw [List.replicate_succ, List.flatten_cons, ih, List.replicate_succ, List.flatten_cons, List.map_append, List.map_map]
    rfl
theorem tup_p (xs : List Int) : D.tup (xs.map D.int) = planD xs := rfl
end Lw
namespace PL
open PySem PySem.Spec L2
set_option autoImplicit false
theorem W.while {t : Tx} {body : Sx} (Inv : Nat → Rho → Store → Prop) (Done : Rho → Store → Prop)
    (step : ∀ (k : Nat) (ρ : Rho) (m : Store), Inv k ρ m → W (t ρ m) fun b => (b.1 = true → W (body ρ b.2) fun r => (Goes r.1 ∧ ∃ k', k' < k ∧ Inv k' r.2.1 r.2.2) ∨ (r.1 = .bk ∧ Done r.2.1 r.2.2)) ∧ (b.1 = false → Done ρ b.2)) :
    ∀ (N k : Nat) (ρ : Rho) (m : Store), k < N → Inv k ρ m → W (whileF t body N ρ m) fun r => r.1 = .nx ∧ Done r.2.1 r.2.2
  | 0, k, ρ, m, h, _ => absurd h (Nat.not_lt_zero k)
  | N + 1, k, ρ, m, h, hi => by
    obtain ⟨⟨b, m1⟩, h1, h2, h3⟩ := step k ρ m hi
    show W ((t ρ m).bind _) _
    refine W.eq h1 ?_
    cases b with
    | false => exact ⟨_, rfl, rfl, h3 rfl⟩
    | true =>
      obtain ⟨⟨fl, ρ2, m2⟩, g1, g2⟩ := h2 rfl
      show W ((body ρ m1).bind _) _
      refine W.eq g1 ?_
      rcases g2 with ⟨g, k', hk, hi'⟩ | ⟨g, hd⟩
      · have go := W.while Inv Done step N k' ρ2 m2 (by omega) hi'
        rcases g with g | g
        · have g : fl = .nx := g
          subst g; exact go
        · have g : fl = .ct := g
          subst g; exact go
      · have g : fl = .bk := g
        subst g
        exact ⟨_, rfl, rfl, hd⟩
theorem dget_int (kvs : List (Key × D)) (i : Int) : dget (.dic kvs) (.int i) = some (valD kvs (.inl i)) := rfl
def leftK (rem : List Int) : List (Key × D) := rem.map fun i => (.inl i, .bl true)
theorem valD_left (rem : List Int) (i : Int) : (valD (leftK rem) (.inl i)).isSome = decide (i ∈ rem) := by
  unfold valD leftK
  induction rem with
  | nil => rfl
  | cons x xs ih =>
    rw [List.map_cons, List.find?_cons]
    by_cases h : x = i
    · rw [h]; simp
    · have : decide ((((Sum.inl x : Key), D.bl true) : Key × D).1 = Sum.inl i) = false := decide_eq_false fun z => h (Sum.inl.inj z)
      rw [this, ih]
      simp [Ne.symm h]
theorem dropD_left (rem : List Int) (i : Int) : dropD (leftK rem) (.inl i) = leftK (rem.filter fun x => decide (x ≠ i)) := by
  unfold dropD leftK
  rw [List.filter_map]
  congr 1
  refine List.filter_congr fun x _ => ?_
  by_cases h : x = i <;> simp [h]
theorem putD_len {κ : Type} [DecidableEq κ] (kvs : List (κ × D)) (k : κ) (v : D) : (putD kvs k v).length ≤ kvs.length + 1 := by
  unfold putD
  split <;> simp
theorem valD_put {κ : Type} [DecidableEq κ] (kvs : List (κ × D)) (k : κ) (v : D) (j : κ) : valD (putD kvs k v) j = if j = k then some v else valD kvs j := by
  unfold valD putD
  by_cases h : (kvs.any fun kv => decide (kv.1 = k)) = true
  · rw [if_pos h]
    induction kvs with
    | nil => simp at h
    | cons x xs ih =>
      rw [List.map_cons, List.find?_cons]
      by_cases hx : x.1 = k
      · rw [if_pos hx]
        by_cases hj : j = k
        · rw [if_pos hj, hj]
          simp [hx]
        · rw [if_neg hj, List.find?_cons]
          have e1 : decide (x.1 = j) = false := decide_eq_false fun z => hj (by rw [← z, hx])
          show Option.map _ (match decide (x.1 = j) with | true => _ | false => _) = Option.map _ (match decide (x.1 = j) with | true => _ | false => _)
          rw [e1]
          show Option.map _ (List.find? _ _) = Option.map _ (List.find? _ _)
          by_cases hxs : (xs.any fun kv => decide (kv.1 = k)) = true
          · have := ih hxs
            rw [if_neg hj] at this
            exact this
          · have e : xs.map (fun kv => if kv.1 = k then (kv.1, v) else kv) = xs := by
              refine List.map_congr_left (g := id) (fun y hy => ?_) |>.trans (List.map_id _)
              rw [if_neg fun z => hxs (List.any_eq_true.mpr ⟨y, hy, decide_eq_true z⟩)]
              rfl
            rw [e]
      · rw [if_neg hx]
        have hxs : (xs.any fun kv => decide (kv.1 = k)) = true := by
          rw [List.any_cons, decide_eq_false hx, Bool.false_or] at h
          exact h
        rw [List.find?_cons]
        by_cases hxj : x.1 = j
        · rw [decide_eq_true hxj]
          show some x.2 = _
          rw [if_neg fun z => hx (by rw [hxj, z])]
          rfl
        · rw [decide_eq_false hxj]
          exact ih hxs
  · rw [if_neg h, List.find?_append]
    by_cases hj : j = k
    · rw [if_pos hj, hj]
      have : kvs.find? (fun kv => decide (kv.1 = k)) = none := List.find?_eq_none.mpr fun y hy z => h (List.any_eq_true.mpr ⟨y, hy, z⟩)
      rw [this]
      simp
    · rw [if_neg hj]
      cases kvs.find? fun kv => decide (kv.1 = j) with
      | some y => rfl
      | none => simp [Ne.symm hj]
end PL
namespace Lw
open PySem PySem.Spec L2 PL
set_option autoImplicit false
local macro_rules | `(tactic| simp_arith [$ls,*]) => `(tactic| try simp (maxSteps := 2000000) only [eV, eC, eBin, g2, eUn, eBi, eCall, aNil, aCons, sSeq, sRet, sIf, sSet, sAsg, sExp, tgName, tgTup_pair, sNil, eIf, tAndM, tOrM, tNotM, eAnd, eOr, eNot, tTrue, sFor, iRange1_bind, iSeq, eSl, oNone, oSome, opNeg_i, opSl_l, opSl_t, tOf_eq, look_d, frzE_d, frzAll, eLst, eTup, eLstO, eApp, sPutL, cellL, look, frzE, gIx_d, gIx_own, gIx_deal, dealAt, intOf, opAdd_i, opI_i, opEqA_i, opNeA_i, opEqA_b, opLen_l, opLen_t, opLen_s, opLen_d, itemsOf_l, itemsOf_t, opTuple_l, opTuple_t, opList_l, opList_t, opIx_web0, opIx_web1, opIx_ck, opIn_pair, opNotIn_pair, wipeE, fin, ck, 
  Option.bind_some, Option.bind_none, Option.bind_assoc, W_some, List.map_cons, List.map_nil, List.replicate, List.cons_append, List.nil_append, List.getElem?_cons_zero, List.getElem?_cons_succ, List.set_cons_zero, List.set_cons_succ, List.length_cons, List.length_nil, List.take_succ_cons, List.take_zero, List.take_nil, List.take_length, List.length_append, Nat.zero_add, Nat.lt_irrefl, Option.map_some, List.length_map, Int.toNat_natCast, if_true, if_false, Bool.false_eq_true, Bool.not_true, Bool.not_false, decide_true, decide_false, reduceCtorEq, lb0, lb1, lb2, lb3, lb4, lb5, lb6, lb7, lb8, lb9, lb10, lb11, lb12, lb13, lb14, lb15, lb16, lb17, $ls,*])
local macro_rules | `(tactic| simp_arith) => `(tactic| simp_arith [Option.bind_some])
def lefts (ms : Ms) (rem : List Int) (p : Int) : List Int := (meets ms p).filter fun i => decide (i ∈ rem)
theorem dc_left (ρ : Rho) (hρ : 5 < ρ.length) (m : Store) : ∀ (ys acc : List Int), (acc ++ ys).Nodup → (acc ++ ys).length ≤ 1000 → dcLoop (tgName 5) tTrue (eV 5) (eC (.bl true)) ρ (ys.map D.int) (leftK acc) m = some (leftK (acc ++ ys), m)
  | [], acc, _, _ => by rw [List.append_nil]; rfl
  | y :: ys, acc, hn, hl => by
    rw [List.map_cons]
    have e : (ρ.set 5 (some (.d (.int y))))[5]? = some (some (.d (.int y))) := by
      rw [List.getElem?_set_self hρ]
    have hy : ¬ y ∈ acc := fun z => (List.nodup_append.mp hn).2.2 y z y List.mem_cons_self rfl
    have e2 : putD (leftK acc) (.inl y) (.bl true) = leftK (acc ++ [y]) := by
      unfold putD
      rw [if_neg]
      · unfold leftK; rw [List.map_append]; rfl
      · intro z
        obtain ⟨kv, h1, h2⟩ := List.any_eq_true.mp z
        unfold leftK at h1
        obtain ⟨i, hi, rfl⟩ := List.mem_map.mp h1
        have := Sum.inl.inj (of_decide_eq_true h2)
        exact hy (by rw [← this]; exact hi)
    have hal : (leftK acc).length < big := by
      unfold leftK big
      rw [List.length_append] at hl
      rw [List.length_map]
      omega
    show ((tgName 5 (.d (.int y)) ρ).bind _) = _
    rw [show tgName 5 (.d (.int y)) ρ = some (ρ.set 5 (some (.d (.int y)))) from rfl, Option.bind_some]
    show ((eV 5 (ρ.set 5 (some (.d (.int y)))) m).bind _) = _
    have e3 : eV 5 (ρ.set 5 (some (.d (.int y)))) m = some (.d (.int y), m) := by unfold eV; rw [e]
    rw [e3]
    show (if (leftK acc).length < big then dcLoop (tgName 5) tTrue (eV 5) (eC (.bl true)) ρ (ys.map D.int) (putD (leftK acc) (.inl y) (.bl true)) m else none) = _
    rw [if_pos hal, e2, dc_left ρ hρ m ys (acc ++ [y]) (by rw [List.append_assoc]; exact hn) (by rw [List.append_assoc]; exact hl), List.append_assoc]
    rfl
def HomesInv (ms : Ms) (rem : List Int) (H : List (Key × D)) : Prop := (∀ i ∈ rem, 0 ≤ i ∧ i < ms.length) ∧ H.length + rem.length ≤ ms.length ∧ ∀ i : Int, 0 ≤ i → i < ms.length → i ∉ rem → ∃ v : Int, valD H (.inl i) = some (.int v)
theorem filter_ne_len {rem : List Int} {i : Int} (h : i ∈ rem) : (rem.filter fun x => decide (x ≠ i)).length < rem.length := by
  induction rem with
  | nil => cases h
  | cons x xs ih =>
    rw [List.filter_cons]
    by_cases e : x = i
    · rw [if_neg (by simp [e])]
      have := List.length_filter_le (fun x => decide (x ≠ i)) xs
      rw [List.length_cons]
      omega
    · rw [if_pos (by simp [e])]
      have := ih ((List.mem_cons.mp h).resolve_left fun z => e z.symm)
      rw [List.length_cons, List.length_cons]
      omega
theorem HomesInv.put {ms : Ms} {rem : List Int} {H : List (Key × D)} (h : HomesInv ms rem H) {i : Int} (hi : i ∈ rem) (v : Int) : HomesInv ms (rem.filter fun x => decide (x ≠ i)) (putD H (.inl i) (.int v)) := by
  refine ⟨fun j hj => h.1 j (List.mem_filter.mp hj).1, ?_, fun j j0 j1 hj => ?_⟩
  · have := putD_len H (.inl i) (.int v)
    have := filter_ne_len hi
    have := h.2.1
    omega
  · rw [valD_put]
    by_cases e : j = i
    · exact ⟨v, by rw [e, if_pos rfl]⟩
    · rw [if_neg fun z => e (Sum.inl.inj z)]
      refine h.2.2 j j0 j1 fun z => hj (List.mem_filter.mpr ⟨z, by simp [e]⟩)
theorem atHome_len {ms : Ms} {homes : List Int} (h : Homes ms homes) (p : Int) : (atHome ms homes p).length = (homes.filter fun x => decide (x = p)).length := by
  unfold atHome meets
  rw [List.filter_map, List.length_map, List.filter_filter, ← h.1]
  have e := congrArg List.length (filter_range homes 0 (fun x => decide (x = p)) id)
  rw [List.length_map, List.length_map] at e
  rw [← e]
  congr 1
  refine List.filter_congr fun i hi => ?_
  have hi := List.mem_range.mp hi
  show (decide (homes.getD ((i : Int)).toNat 0 = p) && decide (p = (pr ms i).1 ∨ p = (pr ms i).2)) = decide (homes.getD i 0 = p)
  rw [Int.toNat_natCast]
  by_cases q : homes.getD i 0 = p
  · rw [decide_eq_true q, Bool.true_and]
    have := h.2 i (by rw [← h.1]; exact hi)
    rw [q] at this
    exact decide_eq_true this
  · rw [decide_eq_false q, Bool.false_and]
theorem opIx_scr (ns : List Int) (i : Int) (h0 : 0 ≤ i) (h : i < ns.length) : opIx (.scr ns) (.int i) = some (.int (ns.getD i.toNat 0)) := by
  show (atI ns i).map D.int = _
  have := atI_map' id ns 0 i h0 h
  rw [List.map_id] at this
  rw [this]
  rfl
theorem intsOf_l (xs : List Int) : intsOf (xs.map .int) = some xs := intsOf_map xs
theorem deal_spec (ns : List Int) (hn : ns.length ≤ 63) : W (m__law_deal [.d (.scr ns)] []) fun p => ∃ row t, p = (dl row t, [ck 0]) := by
  unfold m__law_deal
  rw [fnD_eq 1 5 b__law_deal _ _ rfl]
  unfold b__law_deal
  simp_arith [eDeal]
  have hmin : (if (63 : Int) < (ns.length : Int) then (63 : Int) else (ns.length : Int)) = ns.length := if_neg (by omega)
  rw [hmin]
  refine W.rg ⟨by omega, by omega⟩ ?_
  simp_arith
  refine W.loop (fun i ρ m => ∃ (out : List Int) (x2 x3 x4 : Option E), m = [.lst (out.map .int)] ∧ out.length ≤ 40 * i ∧ ρ = [some (.d (.scr ns)), some (.own 0), x2, x3, x4, none]) ⟨[], _, _, _, rfl, by simp, rfl⟩ ?_ ?_
  · rintro i y hy ρ m ⟨out, x2, x3, x4, rfl, ho, rfl⟩
    obtain ⟨hi, rfl⟩ := getElem?_range hy
    refine ⟨_, rfl, ?_⟩
    simp_arith [opIx_scr ns y (by omega) (by omega), opInt, opAbs_i]
    refine W.pos (okP_true ⟨⟨by omega, by omega⟩, by decide⟩) ?_
    rw [show (10 : Int) ^ (Int.toNat 18) = 1000000000000000000 by decide]
    simp_arith
    generalize absZ (ns.getD y 0) = a
    by_cases ha : (1000000000000000000 : Int) ≤ a
    · rw [decide_eq_true ha]
      simp_arith
      refine W.rg ⟨by omega, by omega⟩ ?_
      simp_arith
      refine W.bnd (W.loop (fun j ρ m => ∃ (out2 : List Int) (v : Int) (x4 : Option E), m = [.lst (out2.map .int)] ∧ out2.length ≤ out.length + j ∧ ρ = [some (.d (.scr ns)), some (.own 0), some (.d (.int (y : Int))), some (.d (.int v)), x4, none]) ⟨out, _, _, rfl, by simp, rfl⟩ ?_ ?_)
      · rintro j z hz ρ m ⟨out2, v, x4, rfl, ho2, rfl⟩
        obtain ⟨hj, rfl⟩ := getElem?_range hz
        have hj : z < 40 := hj
        refine ⟨_, rfl, ?_⟩
        simp_arith
        by_cases hv : 0 < v
        · rw [decide_eq_true hv]
          simp_arith
          refine W.pos (by decide) ?_
          simp_arith
          rw [if_pos (by unfold big; omega)]
          simp_arith
          refine W.pos (by decide) ?_
          simp_arith
          exact ⟨goes_nx, out2 ++ [v % 1009], _, _, by rw [List.map_append]; rfl, by simp; omega, rfl⟩
        · rw [decide_eq_false hv]
          simp_arith
          exact ⟨goes_nx, out2, _, _, rfl, by omega, rfl⟩
      · rintro ρ m ⟨out2, v, x4, rfl, ho2, rfl⟩
        simp_arith
        have ho2 : out2.length ≤ out.length + 40 := Nat.le_trans ho2 (by simp)
        exact ⟨goes_nx, out2, _, _, _, rfl, by omega, rfl⟩
    · rw [decide_eq_false ha]
      simp_arith
      refine W.pos (by decide) ?_
      simp_arith [opMulA_r _ 48271 (by decide), opMulA_r _ 69621 (by decide)]
      refine W.rg ⟨by omega, by omega⟩ ?_
      simp_arith
      refine W.bnd (W.loop (fun j ρ m => ∃ (out2 : List Int) (v : Int) (x4 : Option E), m = [.lst (out2.map .int)] ∧ out2.length ≤ out.length + j ∧ ρ = [some (.d (.scr ns)), some (.own 0), some (.d (.int (y : Int))), some (.d (.int v)), x4, none]) ⟨out, _, _, rfl, by simp, rfl⟩ ?_ ?_)
      · rintro j z hz ρ m ⟨out2, v, x4, rfl, ho2, rfl⟩
        obtain ⟨hj, rfl⟩ := getElem?_range hz
        have hj : z < 5 := hj
        refine ⟨_, rfl, ?_⟩
        simp_arith [opMulA_r _ 16807 (by decide)]
        refine W.pos (by decide) ?_
        simp_arith
        refine W.pos (by decide) ?_
        simp_arith
        refine W.pos (by decide) ?_
        simp_arith
        rw [if_pos (by unfold big; omega)]
        simp_arith
        exact ⟨goes_nx, out2 ++ [_], _, _, by rw [List.map_append]; rfl, by simp; omega, rfl⟩
      · rintro ρ m ⟨out2, v, x4, rfl, ho2, rfl⟩
        simp_arith
        have ho2 : out2.length ≤ out.length + 5 := Nat.le_trans ho2 (by simp)
        exact ⟨goes_nx, out2, _, _, _, rfl, by omega, rfl⟩
  · rintro ρ m ⟨out, x2, x3, x4, rfl, ho, rfl⟩
    simp_arith [opSum, intsOf_l]
    rw [if_neg (by decide)]
    exact W_some.mpr ⟨out, _, rfl⟩
theorem pys_pairs : ∀ xs : Ms, ∃ ps, pys (xs.map pairD) = some ps
  | [] => ⟨[], by simp [pys]⟩
  | x :: xs => by
    obtain ⟨ps, h⟩ := pys_pairs xs
    exact ⟨.tuple [.int x.1, .int x.2] :: ps, by simp [pys, py, pairD, h]⟩
theorem depDs_pairs : ∀ xs : Ms, depDs (xs.map pairD) ≤ 1
  | [] => by simp [depDs]
  | x :: xs => by
    have := depDs_pairs xs
    simp [depDs, depD, pairD]
    omega
theorem opIn_pairs (p : Int × Int) (qs : Ms) : opIn (pairD p) (.tup (qs.map pairD)) = some (.bl (decide (pairD p ∈ qs.map pairD))) := by
  unfold opIn inD
  obtain ⟨ps, h⟩ := pys_pairs qs
  have h2 := depDs_pairs qs
  have h3 : depD (pairD p) = 1 := by simp [depD, depDs, pairD]
  have h4 : py (pairD p) = some (.tuple [.int p.1, .int p.2]) := by simp [py, pys, pairD]
  have h5 : py (.tup (qs.map pairD)) = some (.tuple ps) := by simp [py, h]
  show Option.map _ ((some (qs.map pairD)).bind _) = _
  rw [Option.bind_some, h4, h5, h3]
  show Option.map _ (if 1 ≤ 64 ∧ depD (.tup (qs.map pairD)) ≤ 64 then _ else _) = _
  rw [if_pos ⟨by decide, by simp [depD]; omega⟩]
  rfl
theorem gload_bounds (n : Int) (ms : Ms) : 0 ≤ gload n ms ∧ gload n ms ≤ ms.length := by
  obtain ⟨h1, h2⟩ := maxZ_spec (xs := 0 :: loads n ms) (by simp)
  refine ⟨h2 0 List.mem_cons_self, ?_⟩
  unfold gload
  rcases List.mem_cons.mp h1 with h | h
  · omega
  · unfold loads at h
    obtain ⟨p, _, e⟩ := List.mem_map.mp h
    have := meets_len ms p
    unfold loads
    omega
end Lw
namespace PL
open PySem PySem.Spec L2
set_option autoImplicit false
inductive Rch (A : Int → Int → Prop) (p : Int) : Int → Prop
  | refl : Rch A p p
  | tail {q r : Int} : Rch A p q → A q r → Rch A p r
theorem Rch.trans {A : Int → Int → Prop} {p q r : Int} (h1 : Rch A p q) (h2 : Rch A q r) : Rch A p r := by
  induction h2 with
  | refl => exact h1
  | tail _ a ih => exact ih.tail a
theorem Rch.head {A : Int → Int → Prop} {p q r : Int} (h1 : A p q) (h2 : Rch A q r) : Rch A p r := (Rch.refl.tail h1).trans h2
theorem Rch.symm {A : Int → Int → Prop} (hA : ∀ p q, A p q → A q p) {p q : Int} (h : Rch A p q) : Rch A q p := by
  induction h with
  | refl => exact .refl
  | tail _ a ih => exact .head (hA _ _ a) ih
theorem Rch.mem {A : Int → Int → Prop} {L : List Int} (hA : ∀ p q, A p q → p ∈ L ∧ q ∈ L) {p q : Int} (hp : p ∈ L) (h : Rch A p q) : q ∈ L := by
  cases h with
  | refl => exact hp
  | tail _ a => exact (hA _ _ a).2
def near (A : Int → Int → Prop) : Nat → Int → Int → Prop
  | 0, p, q => p = q
  | t + 1, p, q => near A t p q ∨ ∃ r, near A t p r ∧ A r q
theorem filter_grow {α : Type} {c d : α → Bool} : ∀ {l : List α}, (∀ x ∈ l, c x = true → d x = true) → (∃ x ∈ l, d x = true ∧ c x = false) → (l.filter c).length + 1 ≤ (l.filter d).length
  | [], _, h => by obtain ⟨x, hx, _⟩ := h; cases hx
  | y :: l, h1, h2 => by
    obtain ⟨x, hx, hd, hc⟩ := h2
    have sub : ∀ l : List α, (∀ x ∈ l, c x = true → d x = true) → (l.filter c).length ≤ (l.filter d).length := fun l => by
      induction l with
      | nil => intro _; exact Nat.le_refl _
      | cons z l ih =>
        intro h
        have := ih fun w hw => h w (List.mem_cons_of_mem _ hw)
        rw [List.filter_cons, List.filter_cons]
        cases hz : c z with
        | true => rw [if_pos rfl, if_pos (h z List.mem_cons_self hz), List.length_cons, List.length_cons]; omega
        | false =>
          rw [if_neg Bool.false_ne_true]
          split <;> simp <;> omega
    have h1' : ∀ x ∈ l, c x = true → d x = true := fun w hw => h1 w (List.mem_cons_of_mem _ hw)
    rw [List.filter_cons, List.filter_cons]
    rcases List.mem_cons.mp hx with rfl | hx
    · rw [hc, hd, if_neg Bool.false_ne_true, if_pos rfl, List.length_cons]
      have := sub l h1'
      omega
    · have ih := filter_grow h1' ⟨x, hx, hd, hc⟩
      cases hy : c y with
      | true => rw [if_pos rfl, if_pos (h1 y List.mem_cons_self hy), List.length_cons, List.length_cons]; omega
      | false =>
        rw [if_neg Bool.false_ne_true]
        split <;> simp <;> omega
theorem near_closed {A : Int → Int → Prop} {L : List Int} (hA : ∀ p q, A p q → p ∈ L ∧ q ∈ L) {p : Int} (hp : p ∈ L) : ∀ t : Nat, (∀ q r, near A t p q → A q r → near A t p r) ∨ t + 1 ≤ (L.filter fun q => tr (near A t p q)).length
  | 0 => by
    refine .inr ?_
    have : p ∈ L.filter fun q => tr (near A 0 p q) := List.mem_filter.mpr ⟨hp, tr_true rfl⟩
    exact List.length_pos_of_mem this
  | t + 1 => by
    by_cases hc : ∀ q r, near A t p q → A q r → near A t p r
    · refine .inl fun q r h a => ?_
      rcases h with h | ⟨s, h1, h2⟩
      · exact .inl (hc q r h a)
      · exact .inl (hc q r (hc s q h1 h2) a)
    · rcases near_closed hA hp t with h | h
      · exact absurd h hc
      · refine .inr ?_
        have : ∃ q r, near A t p q ∧ A q r ∧ ¬ near A t p r := Classical.byContradiction fun z => hc fun q r h1 h2 => Classical.byContradiction fun w => z ⟨q, r, h1, h2, w⟩
        obtain ⟨q, r, h1, h2, h3⟩ := this
        have := filter_grow (l := L) (c := fun q => tr (near A t p q)) (d := fun q => tr (near A (t + 1) p q)) (fun x _ hx => tr_true (.inl (tr_iff.mp hx))) ⟨r, (hA _ _ h2).2, tr_true (.inr ⟨q, h1, h2⟩), tr_false h3⟩
        omega
theorem rch_near {A : Int → Int → Prop} {L : List Int} (hA : ∀ p q, A p q → p ∈ L ∧ q ∈ L) {p q : Int} (hp : p ∈ L) (h : Rch A p q) : near A L.length p q := by
  rcases near_closed hA hp L.length with hc | hc
  · induction h with
    | refl =>
      have : ∀ t, near A t p p := fun t => by
        induction t with
        | zero => rfl
        | succ t ih => exact .inl ih
      exact this _
    | tail _ a ih => exact hc _ _ ih a
  · have := List.length_filter_le (fun q => tr (near A L.length p q)) L
    omega
noncomputable def partOf (A : Int → Int → Prop) (L : List Int) (p : Int) : List Int := L.filter fun q => tr (Rch A p q)
def Least (A : Int → Int → Prop) (p : Int) : Prop := ∀ q, Rch A p q → p ≤ q
noncomputable def oddB (A : Int → Int → Prop) (L : List Int) (p : Int) : Bool := tr (Least A p) && decide ((partOf A L p).length % 2 = 1)
noncomputable def oddN (A : Int → Int → Prop) (L : List Int) : Nat := (L.filter (oddB A L)).length
theorem same_len {l l' : List Int} (h1 : l.Nodup) (h2 : l'.Nodup) (h : ∀ x, x ∈ l ↔ x ∈ l') : l.length = l'.length :=
  Nat.le_antisymm (List.Nodup.length_le_of_subset h1 fun x hx => (h x).mp hx) (List.Nodup.length_le_of_subset h2 fun x hx => (h x).mpr hx)
structure Marks (A : Int → Int → Prop) (t : Nat) (mk : Int → Int) : Prop where
  sound : ∀ q, Rch A q (mk q)
  low : ∀ p q, near A t p q → mk q ≤ p
theorem Marks.start (A : Int → Int → Prop) : Marks A 0 fun q => q := ⟨fun q => .refl, fun p q h => by
  have h : p = q := h
  rw [h]; exact Int.le_refl _⟩
theorem marks_odd {A : Int → Int → Prop} {L : List Int} {mk : Int → Int} (hs : ∀ p q, A p q → A q p) (hA : ∀ p q, A p q → p ∈ L ∧ q ∈ L) (h : ∀ p ∈ L, Rch A p (mk p) ∧ ∀ q, Rch A p q → mk p ≤ q) {p : Int} (hp : p ∈ L) :
    decide ((L.filter fun q => decide (mk q = p)).length % 2 = 1) = oddB A L p := by
  unfold oddB
  by_cases hl : Least A p
  · rw [tr_true hl, Bool.true_and]
    have e : (L.filter fun q => decide (mk q = p)) = partOf A L p := by
      unfold partOf
      refine List.filter_congr fun q hq => ?_
      rw [decide_tr]
      refine tr_congr ⟨fun z => ?_, fun z => ?_⟩
      · have := (h q hq).1
        rw [z] at this
        exact this.symm hs
      · obtain ⟨h1, h2⟩ := h q hq
        exact Int.le_antisymm (h2 p (z.symm hs)) (hl _ (z.trans h1))
    rw [e]
  · rw [tr_false hl, Bool.false_and]
    have e : (L.filter fun q => decide (mk q = p)) = [] := by
      refine List.filter_eq_nil_iff.mpr fun q hq z => hl fun r hr => ?_
      have z := of_decide_eq_true z
      obtain ⟨h1, h2⟩ := h q hq
      rw [z] at h1 h2
      exact h2 r (h1.trans hr)
    rw [e]
    rfl
end PL
namespace Lw
open PySem PySem.Spec L2 PL
set_option autoImplicit false
local macro_rules | `(tactic| simp_arith [$ls,*]) => `(tactic| try simp (maxSteps := 2000000) only [eV, eC, eBin, g2, eUn, eBi, eCall, aNil, aCons, sSeq, sRet, sIf, sSet, sAsg, sExp, tgName, tgTup_pair, sNil, eIf, tAndM, tOrM, tNotM, eAnd, eOr, eNot, tTrue, sFor, iRange1_bind, iSeq, eSl, oNone, oSome, opNeg_i, opSl_l, opSl_t, tOf_eq, look_d, frzE_d, frzAll, eLst, eTup, eLstO, eApp, sPutL, cellL, look, frzE, gIx_d, gIx_own, gIx_deal, dealAt, intOf, opAdd_i, opI_i, opEqA_i, opNeA_i, opEqA_b, opLen_l, opLen_t, opLen_s, opLen_d, itemsOf_l, itemsOf_t, opTuple_l, opTuple_t, opList_l, opList_t, opIx_web0, opIx_web1, opIx_ck, opIn_pair, opNotIn_pair, wipeE, fin, ck, 
  Option.bind_some, Option.bind_none, Option.bind_assoc, W_some, List.map_cons, List.map_nil, List.replicate, List.cons_append, List.nil_append, List.getElem?_cons_zero, List.getElem?_cons_succ, List.set_cons_zero, List.set_cons_succ, List.length_cons, List.length_nil, List.take_succ_cons, List.take_zero, List.take_nil, List.take_length, List.length_append, Nat.zero_add, Nat.lt_irrefl, Option.map_some, List.length_map, Int.toNat_natCast, if_true, if_false, Bool.false_eq_true, Bool.not_true, Bool.not_false, decide_true, decide_false, reduceCtorEq, lb0, lb1, lb2, lb3, lb4, lb5, lb6, lb7, lb8, lb9, lb10, lb11, lb12, lb13, lb14, lb15, lb16, lb17, $ls,*])
local macro_rules | `(tactic| simp_arith) => `(tactic| simp_arith [Option.bind_some])
theorem chain_lt {fa fb fc : Ex} {ρ : Rho} {m : Store} {a b c : Int} (ha : fa ρ m = some (.d (.int a), m)) (hb : fb ρ m = some (.d (.int b), m)) (hc : fc ρ m = some (.d (.int c), m)) : eChain (g2 opLe) (g2 opLt) fa fb fc ρ m = some (.d (.bl (decide (a ≤ b ∧ b < c))), m) := chain_le_lt ha hb hc
theorem shows_busy_eq (n : Int) (ms : Ms) (k p : Int) (m : Store) (hl : ms.length ≤ 1000) : m_shows_busy [.d (webD n ms), .d (.int k), .d (.int p)] m = some (.d (.bl (decide ((0 ≤ p ∧ p < n) ∧ k < (meets ms p).length))), m) := by
  unfold m_shows_busy
  rw [fnD_eq 3 0 b_shows_busy _ m rfl]
  unfold b_shows_busy
  simp_arith [chain_lt (fa := eC (.int 0)) (fb := eV 2) (fc := eBin gIx (eV 0) (eC (.int 0))) (m := m) (a := 0) (b := p) (c := n) (ρ := [some (.d (webD n ms)), some (.d (.int k)), some (.d (.int p))]) rfl rfl rfl]
  by_cases h : 0 ≤ p ∧ p < n
  · rw [decide_eq_true h]
    simp_arith [load_eq n ms p m hl]
    simp only [h, true_and]
  · rw [decide_eq_false h]
    simp_arith
    simp only [h, false_and, decide_false]
theorem law_busy_eq (n : Int) (ms : Ms) (m : Store) (hl : ms.length ≤ 1000) (h0 : 0 ≤ n) (h1 : n ≤ 1000) : m__law_busy [.d (webD n ms)] m = some (.d (.bl true), m) := by
  refine W.toEq ?_
  unfold m__law_busy
  rw [fnD_eq 1 4 b__law_busy _ m rfl]
  unfold b__law_busy
  simp_arith
  refine W.rg ⟨by omega, by omega⟩ ?_
  simp_arith
  refine W.loop (fun i ρ m2 => m2 = m ∧ ∃ x1 x2 x3, ρ = [some (.d (webD n ms)), x1, x2, x3, none]) ⟨rfl, _, _, _, rfl⟩ ?_ ?_
  · rintro i y hy ρ m2 ⟨rfl, x1, x2, x3, rfl⟩
    obtain ⟨hi, rfl⟩ := getElem?_range hy
    refine ⟨_, rfl, ?_⟩
    simp_arith
    rw [eLc_map (ys := ms) (k := pairD) (fun q => decide ((y : Int) = q.1 ∨ (y : Int) = q.2)) (fun _ => .int 1) (ms_items rfl) (by omega)]
    · simp_arith [← meets_count]
      have := meets_len ms y
      refine W.rg ⟨by omega, by omega⟩ ?_
      simp_arith
      refine W.bnd (W.loop (fun i ρ m3 => m3 = m2 ∧ ∃ x3, ρ = [some (.d (webD n ms)), some (.d (.int (y : Int))), some (.d (.int ((meets ms (y : Int)).length : Int))), x3, none]) ⟨rfl, _, rfl⟩ ?_ ?_)
      · rintro j k hk ρ m3 ⟨rfl, x3, rfl⟩
        refine ⟨_, rfl, ?_⟩
        simp_arith [shows_busy_eq n ms k y m3 hl, law_bool_eq]
        have e : decide ((0 ≤ (y : Int) ∧ (y : Int) < n) ∧ (k : Int) < (meets ms (y : Int)).length) = decide ((k : Int) < (meets ms (y : Int)).length) := by
          refine decide_eq_decide.mpr ⟨fun z => z.2, fun z => ⟨⟨by omega, by omega⟩, z⟩⟩
        rw [e, decide_eq_true rfl]
        simp_arith
        exact ⟨goes_nx, by trivial, _, rfl⟩
      · rintro ρ m3 ⟨rfl, x3, rfl⟩
        simp_arith
        exact ⟨goes_nx, by trivial, _, _, _, rfl⟩
    · intro q hq
      exact ⟨_, rfl, by simp_arith, fun _ => by simp_arith⟩
  · rintro ρ m2 ⟨rfl, x1, x2, x3, rfl⟩
    simp_arith [shows_busy_eq n ms 0 n m2 hl, shows_busy_eq n ms 0 (-1) m2 hl, law_bool_eq]
    rw [decide_eq_false (by omega : ¬ ((0 ≤ n ∧ n < n) ∧ (0 : Int) < (meets ms n).length)), decide_eq_false (by omega : ¬ ((0 ≤ (-1 : Int) ∧ (-1 : Int) < n) ∧ (0 : Int) < (meets ms (-1)).length))]
    simp_arith
/-! ### sides -/
def sideD : Option Int → D
  | none => .non
  | some v => .int v
def SidesOk (n : Nat) (s : List (Option Int)) : Prop := s.length = n ∧ ∀ x ∈ s, x = none ∨ x = some 0 ∨ x = some 1
theorem getD_mem {α : Type} {s : List α} {i : Nat} {d : α} (h : i < s.length) : s.getD i d ∈ s := by
  rw [List.getD_eq_getElem?_getD, List.getElem?_eq_getElem h]
  exact List.getElem_mem h
theorem mem_set {α : Type} {s : List α} {i : Nat} {v x : α} (h : x ∈ s.set i v) : x ∈ s ∨ x = v := by
  rcases List.mem_or_eq_of_mem_set h with h | h
  · exact .inl h
  · exact .inr h
theorem SidesOk.set {n : Nat} {s : List (Option Int)} (h : SidesOk n s) {i : Nat} {v : Int} (hv : v = 0 ∨ v = 1) : SidesOk n (s.set i (some v)) := by
  refine ⟨by rw [List.length_set]; exact h.1, fun x hx => ?_⟩
  rcases mem_set hx with hx | rfl
  · exact h.2 x hx
  · rcases hv with rfl | rfl
    · exact .inr (.inl rfl)
    · exact .inr (.inr rfl)
theorem opIx_sides (s : List (Option Int)) (i : Int) (h0 : 0 ≤ i) (h : i < s.length) : opIx (.lst (s.map sideD)) (.int i) = some (sideD (s.getD i.toNat none)) := atI_map' sideD s none i h0 h
theorem isN_side (x : Option Int) : opIsN (sideD x) .non = some (.bl x.isNone) := by cases x <;> rfl
theorem notN_side (x : Option Int) : opNotN (sideD x) .non = some (.bl x.isSome) := by cases x <;> rfl
theorem ixN_ok (n : Nat) (i : Int) (h0 : 0 ≤ i) (h : i < n) : ixN n i = some i.toNat := by
  unfold ixN
  rw [if_pos h0, if_pos h]
theorem set_map {s : List (Option Int)} {i : Nat} {v : Int} : (s.map sideD).set i (.int v) = (s.set i (some v)).map sideD := by rw [List.map_set]; rfl
theorem gRepO_eq (xs : List D) (k : Int) (m : Store) (h0 : 0 ≤ k) (h1 : k ≤ 1000) (hx : xs.length ≤ 1000) : gRepO (.d (.lst xs)) (.d (.int k)) m = some (.own m.length, m ++ [.lst (List.replicate k.toNat xs).flatten]) := by
  show (if okP (-(2 ^ 63) ≤ k ∧ k < 2 ^ 63 ∧ xs.length * k.toNat ≤ big) = true then some (E.own m.length, m ++ [O.lst (List.replicate k.toNat xs).flatten]) else none) = _
  have hz : xs.length * k.toNat ≤ big := Nat.le_trans (Nat.mul_le_mul hx (show k.toNat ≤ 1000 by omega)) (by decide)
  rw [if_pos (okP_true ⟨by omega, by omega, hz⟩)]
def SidesUp (n : Nat) (s : List (Option Int)) (i : Nat) : Prop := SidesOk n s ∧ ∀ p : Nat, p < i → (s.getD p none).isSome = true
theorem getD_set {α : Type} (s : List α) (i p : Nat) (v d : α) (h : i < s.length) : (s.set i v).getD p d = if p = i then v else s.getD p d := by
  rw [List.getD_eq_getElem?_getD, List.getD_eq_getElem?_getD, List.getElem?_set]
  by_cases e : i = p
  · rw [if_pos e, if_pos e.symm, if_pos (by omega)]; rfl
  · rw [if_neg e, if_neg fun z => e z.symm]
theorem SidesUp.set {n : Nat} {s : List (Option Int)} {i j : Nat} {v : Int} (h : SidesUp n s i) (hj : j < n) (hv : v = 0 ∨ v = 1) : SidesUp n (s.set j (some v)) i := by
  refine ⟨h.1.set hv, fun p hp => ?_⟩
  rw [getD_set _ _ _ _ _ (by rw [h.1.1]; exact hj)]
  split
  · rfl
  · exact h.2 p hp
theorem side_val {n : Nat} {s : List (Option Int)} (h : SidesOk n s) {j : Nat} (hj : j < n) (hs : (s.getD j none).isSome = true) : ∃ v : Int, s.getD j none = some v ∧ (v = 0 ∨ v = 1) := by
  rcases h.2 _ (getD_mem (d := none) (by rw [h.1]; exact hj)) with e | e | e
  · rw [e] at hs; cases hs
  · exact ⟨0, e, .inl rfl⟩
  · exact ⟨1, e, .inr rfl⟩
theorem law_sides_spec {n : Int} {ms : Ms} {o : O} (hl : ms.length ≤ 100) (hn : 0 ≤ n) (hn1 : n ≤ 100) (hg : Good n ms) : W (m__law_sides [.d (webD n ms)] [o]) fun p => ∃ s : List Int, s.length = n.toNat ∧ (∀ x ∈ s, x = 0 ∨ x = 1) ∧ p = (.d (.lst (s.map .int)), [o]) := by
  unfold m__law_sides
  rw [fnD_eq 1 5 b__law_sides _ _ rfl]
  unfold b__law_sides
  simp_arith [gRepO_eq _ n _ hn (by omega) (show [D.non].length ≤ 1000 by simp)]
  have e0 : (List.replicate n.toNat [D.non]).flatten = (List.replicate n.toNat (none : Option Int)).map sideD := by
    rw [List.map_replicate, List.flatten_replicate_singleton]
    rfl
  rw [e0]
  refine W.rg ⟨by omega, by omega⟩ ?_
  simp_arith
  refine W.loop (fun i ρ m => ∃ s, SidesUp n.toNat s i ∧ m = [o, .lst (s.map sideD)] ∧ ∃ x2 x3 x4 x5, ρ = [some (.d (webD n ms)), some (.own 1), x2, x3, x4, x5]) ?_ ?_ ?_
  · refine ⟨List.replicate n.toNat none, ⟨⟨by simp, fun x hx => .inl (List.eq_of_mem_replicate hx)⟩, fun p hp => by omega⟩, rfl, _, _, _, _, rfl⟩
  · rintro i y hy ρ m ⟨s, hs, rfl, x2, x3, x4, x5, rfl⟩
    obtain ⟨hi, rfl⟩ := getElem?_range hy
    refine ⟨_, rfl, ?_⟩
    simp_arith [opIx_sides s y (by omega) (by rw [hs.1.1]; omega), isN_side]
    cases hq : s.getD y none with
    | some v =>
      simp_arith [Option.isNone]
      refine ⟨goes_nx, s, ⟨hs.1, fun p hp => ?_⟩, rfl, _, _, _, _, rfl⟩
      by_cases e : p = y
      · rw [e, hq]; rfl
      · exact hs.2 p (by omega)
    | none =>
      simp_arith [Option.isNone, ixN_ok (s.map sideD).length y (by omega) (by rw [List.length_map, hs.1.1]; omega), set_map]
      rw [ixN_ok s.length y (by omega) (by rw [hs.1.1]; omega)]
      simp_arith [set_map]
      refine W.rg ⟨by omega, by omega⟩ ?_
      simp_arith
      refine W.bnd (W.loop (fun _ ρ m => ∃ s, SidesUp n.toNat s (y + 1) ∧ m = [o, .lst (s.map sideD)] ∧ ∃ x3 x4 x5, ρ = [some (.d (webD n ms)), some (.own 1), some (.d (.int (y : Int))), x3, x4, x5]) ?_ ?_ ?_)
      · refine ⟨_, ⟨hs.1.set (.inl rfl), fun p hp => ?_⟩, rfl, _, _, _, rfl⟩
        rw [getD_set _ _ _ _ _ (by rw [hs.1.1]; omega)]
        split
        · rfl
        · exact hs.2 p (by omega)
      · rintro _ _ _ ρ m ⟨s, hs, rfl, x3, x4, x5, rfl⟩
        refine ⟨_, rfl, ?_⟩
        simp_arith
        refine W.bnd (W.loop (ys := ms) (k := pairD) (fun _ ρ m => ∃ s, SidesUp n.toNat s (y + 1) ∧ m = [o, .lst (s.map sideD)] ∧ ∃ x3 x4 x5, ρ = [some (.d (webD n ms)), some (.own 1), some (.d (.int (y : Int))), x3, x4, x5]) ⟨s, hs, rfl, _, _, _, rfl⟩ ?_ ?_)
        · rintro _ q hq ρ m ⟨s, hs, rfl, x3, x4, x5, rfl⟩
          have hgq := hg q (List.mem_of_getElem? hq)
          refine ⟨_, rfl, ?_⟩
          have ia := opIx_sides s q.1 hgq.1 (by rw [hs.1.1]; omega)
          have ib := opIx_sides s q.2 (by omega) (by rw [hs.1.1]; omega)
          simp_arith [ia, ib, isN_side, notN_side]
          cases ha : s.getD q.1.toNat none with
          | none =>
            simp_arith [Option.isSome, ia, ib, isN_side, notN_side, ha]
            cases hb : s.getD q.2.toNat none with
            | none =>
              simp_arith [Option.isSome]
              exact ⟨goes_nx, s, hs, rfl, _, _, _, rfl⟩
            | some w =>
              obtain ⟨w', e, hw⟩ := side_val hs.1 (j := q.2.toNat) (by omega) (by rw [hb]; rfl)
              rw [hb] at e
              cases e
              simp_arith [Option.isSome, Option.isNone, ia, ib, isN_side, notN_side, ha, hb, sideD]
              rw [ixN_ok s.length q.1 hgq.1 (by rw [hs.1.1]; omega)]
              simp_arith [set_map]
              exact ⟨goes_nx, _, hs.set (by omega) (by omega), rfl, _, _, _, rfl⟩
          | some w =>
            obtain ⟨w', e, hw⟩ := side_val hs.1 (j := q.1.toNat) (by omega) (by rw [ha]; rfl)
            rw [ha] at e
            cases e
            simp_arith [Option.isSome, Option.isNone, ia, ib, isN_side, notN_side, ha, sideD]
            cases hb : s.getD q.2.toNat none with
            | none =>
              simp_arith [Option.isSome, Option.isNone, ia, ib, isN_side, notN_side, ha, hb, sideD]
              rw [ixN_ok s.length q.2 (by omega) (by rw [hs.1.1]; omega)]
              simp_arith [set_map]
              have hs2 := hs.set (j := q.2.toNat) (v := 1 - w) (by omega) (by omega)
              have ia2 := opIx_sides (s.set q.2.toNat (some (1 - w))) q.1 hgq.1 (by rw [hs2.1.1]; omega)
              have ib2 := opIx_sides (s.set q.2.toNat (some (1 - w))) q.2 (by omega) (by rw [hs2.1.1]; omega)
              rw [getD_set _ _ _ _ _ (by rw [hs.1.1]; omega), if_neg (by omega), ha] at ia2
              rw [getD_set _ _ _ _ _ (by rw [hs.1.1]; omega), if_pos rfl] at ib2
              simp_arith [ib2, ia2, notN_side, isN_side, Option.isSome, Option.isNone]
              exact ⟨goes_nx, _, hs2, rfl, _, _, _, rfl⟩
            | some w2 =>
              simp_arith [Option.isSome, Option.isNone, ia, ib, isN_side, notN_side, ha, hb]
              exact ⟨goes_nx, s, hs, rfl, _, _, _, rfl⟩
        · rintro ρ m ⟨s, hs, rfl, x3, x4, x5, rfl⟩
          simp_arith
          exact ⟨goes_nx, s, hs, rfl, _, _, _, rfl⟩
      · rintro ρ m ⟨s, hs, rfl, x3, x4, x5, rfl⟩
        simp_arith
        exact ⟨goes_nx, s, hs, rfl, _, _, _, _, rfl⟩
  · rintro ρ m ⟨s, hs, rfl, x2, x3, x4, x5, rfl⟩
    rw [List.length_range] at hs
    simp_arith
    refine ⟨s.map fun x => x.getD 0, by rw [List.length_map]; exact hs.1.1, fun x hx => ?_, ?_⟩
    · obtain ⟨y, hy, rfl⟩ := List.mem_map.mp hx
      rcases hs.1.2 y hy with rfl | rfl | rfl
      · exact .inl rfl
      · exact .inl rfl
      · exact .inr rfl
    · have : s.map sideD = (s.map fun x => x.getD 0).map D.int := by
        rw [List.map_map]
        refine List.map_congr_left fun x hx => ?_
        obtain ⟨j, hj, e⟩ := List.getElem_of_mem hx
        have := hs.2 j (by rw [← hs.1.1]; exact hj)
        rw [List.getD_eq_getElem?_getD, List.getElem?_eq_getElem hj, e] at this
        cases x with
        | none => cases this
        | some v => rfl
      rw [this]
end Lw
namespace Lw
open PySem PySem.Spec L2 PL
set_option autoImplicit false
local macro_rules | `(tactic| simp_arith [$ls,*]) => `(tactic| try simp (maxSteps := 2000000) only [eV, eC, eBin, g2, eUn, eBi, eCall, aNil, aCons, sSeq, sRet, sIf, sSet, sAsg, sExp, tgName, tgTup_pair, sNil, eIf, tAndM, tOrM, tNotM, eAnd, eOr, eNot, tTrue, sFor, iRange1_bind, iSeq, eSl, oNone, oSome, opNeg_i, opSl_l, opSl_t, tOf_eq, look_d, frzE_d, frzAll, eLst, eTup, eLstO, eApp, sPutL, cellL, look, frzE, gIx_d, gIx_own, gIx_deal, dealAt, intOf, opAdd_i, opI_i, opEqA_i, opNeA_i, opEqA_b, opLen_l, opLen_t, opLen_s, opLen_d, itemsOf_l, itemsOf_t, opTuple_l, opTuple_t, opList_l, opList_t, opIx_web0, opIx_web1, opIx_ck, opIn_pair, opNotIn_pair, wipeE, fin, ck, 
  Option.bind_some, Option.bind_none, Option.bind_assoc, W_some, List.map_cons, List.map_nil, List.replicate, List.cons_append, List.nil_append, List.getElem?_cons_zero, List.getElem?_cons_succ, List.set_cons_zero, List.set_cons_succ, List.length_cons, List.length_nil, List.take_succ_cons, List.take_zero, List.take_nil, List.take_length, List.length_append, Nat.zero_add, Nat.lt_irrefl, Option.map_some, List.length_map, Int.toNat_natCast, if_true, if_false, Bool.false_eq_true, Bool.not_true, Bool.not_false, decide_true, decide_false, reduceCtorEq, lb0, lb1, lb2, lb3, lb4, lb5, lb6, lb7, lb8, lb9, lb10, lb11, lb12, lb13, lb14, lb15, lb16, lb17, $ls,*])
local macro_rules | `(tactic| simp_arith) => `(tactic| simp_arith [Option.bind_some])
theorem inD_intsT (x : Int) (xs : List Int) : inD (.int x) (planD xs) = some (decide (x ∈ xs)) := by
  unfold inD planD
  obtain ⟨ps, h⟩ := pys_ints xs
  simp [itemsOf, py, h, depD, depDs_ints]
theorem opIn_p (x : Int) (xs : List Int) : opIn (.int x) (planD xs) = some (.bl (decide (x ∈ xs))) := by
  unfold opIn; rw [inD_intsT]; rfl
theorem opNotIn_p (x : Int) (xs : List Int) : opNotIn (.int x) (planD xs) = some (.bl (!decide (x ∈ xs))) := by
  unfold opNotIn; rw [inD_intsT]; rfl
theorem two_p (a b : Int) : D.tup [.int a, .int b] = planD [a, b] := rfl
def Sides (n : Int) (ms : Ms) (row : List Int) : Prop := ((row.length : Int) = n ∧ ∀ x ∈ row, x ∈ [(0 : Int), 1]) ∧ ∀ q ∈ ms, ¬ row.getD q.1.toNat 0 = row.getD q.2.toNat 0
theorem count_tr {α : Type} {c : α → Bool} {l : List α} {P : Prop} (h : P ↔ ∀ x ∈ l, c x = false) : decide (((l.filter c).length : Int) = 0) = tr P := by
  rw [decide_tr]
  refine tr_congr ⟨fun z => h.mpr (filter_none.mp (by omega)), fun z => ?_⟩
  have := filter_none.mpr (h.mp z)
  omega
theorem count_pos_tr {α : Type} {c : α → Bool} {l : List α} {P : Prop} (h : P ↔ ∀ x ∈ l, c x = false) : decide ((0 : Int) < ((l.filter c).length : Int)) = !tr P := by
  by_cases hp : P
  · rw [tr_true hp, filter_none.mpr (h.mp hp)]; rfl
  · rw [tr_false hp]
    refine decide_eq_true ?_
    have : ¬ (l.filter c).length = 0 := fun z => hp (h.mpr (filter_none.mp z))
    omega
theorem shows_sides_eq (n : Int) (ms : Ms) (row : List Int) (m : Store) (hl : ms.length ≤ 1000) (hr : row.length ≤ 1000) (hg : Good n ms) : m_shows_sides [.d (webD n ms), .d (planD row)] m = some (.d (.bl (tr (Sides n ms row))), m) := by
  refine W.toEq ?_
  unfold m_shows_sides
  rw [fnD_eq 2 3 b_shows_sides _ m rfl]
  unfold b_shows_sides
  simp_arith [opLen_p]
  by_cases e1 : (row.length : Int) = n
  · rw [decide_eq_true e1]
    simp_arith
    rw [eLc_map (ys := row) (k := D.int) (fun x => !decide (x ∈ [(0 : Int), 1])) (fun _ => .int 1) (tup_items rfl) (by omega)]
    · simp_arith
      rw [count_pos_tr (P := ∀ x ∈ row, x ∈ [(0 : Int), 1]) ⟨fun z x hx => notDec' (z x hx), fun z x hx => notDec (z x hx)⟩]
      by_cases e2 : ∀ x ∈ row, x ∈ [(0 : Int), 1]
      · rw [tr_true e2]
        simp_arith
        rw [eLc_map (ys := ms) (k := pairD) (fun q => decide (row.getD q.1.toNat 0 = row.getD q.2.toNat 0)) (fun _ => .int 1) (ms_items rfl) (by omega)]
        · simp_arith
          rw [count_tr (P := Sides n ms row) ⟨fun z q hq => decide_eq_false (z.2 q hq), fun z => ⟨⟨e1, e2⟩, fun q hq => of_decide_eq_false (z q hq)⟩⟩]
        · intro q hq
          have hgq := hg q hq
          refine ⟨_, rfl, ?_, fun _ => by simp_arith⟩
          simp_arith [opIx_p row q.1 hgq.1 (by omega), opIx_p row q.2 (by omega) (by omega)]
      · rw [tr_false e2]
        simp_arith
        rw [tr_false fun z => e2 z.1.2]
    · intro x hx
      refine ⟨_, rfl, ?_, fun _ => by simp_arith⟩
      simp_arith [two_p, opNotIn_p]
  · rw [decide_eq_false e1]
    simp_arith
    rw [tr_false fun z => e1 z.1.1]
theorem law_sides_judged_spec {row : List Int} {t c n : Int} {ms : Ms} (h0 : 0 ≤ c) (h1 : c ≤ 900000) (hl : ms.length ≤ 100) (hn : 1 ≤ n) (hn1 : n ≤ 20) (hg : Good n ms) : W (m__law_sides_judged [dl row t, .d (webD n ms)] [ck c]) fun p => ∃ c' : Int, c ≤ c' ∧ c' ≤ c + 100 ∧ p = (.d (.bl true), [ck c']) := by
  unfold m__law_sides_judged
  rw [fnD_eq 2 9 b__law_sides_judged _ _ rfl]
  unfold b__law_sides_judged
  generalize hT : (sSeq (sFor (iSeq (eV 5)) (tgName 7) (sSeq (sSet 8 (eAnd (eBin (g2 opEqA) (eUn opLen (eV 7)) (eBin gIx (eV 1) (eC (.int 0)))) (eBin (g2 opEqA) (eUn opLen (eLc (iSeq (eV 7)) [4] (tgName 4) (tOf (eBin (g2 opNotIn) (eV 4) (eLst (aCons (eC (.int 0)) (aCons (eC (.int 1)) aNil))))) (eC (.int 1)))) (eC (.int 0)))))
    (sSeq (sSet 8 (eAnd (eV 8) (eBin (g2 opEqA) (eUn opLen (eLc (iSeq (eBin gIx (eV 1) (eC (.int 1)))) [9, 10] (tgTup [9, 10]) (tOf (eBin (g2 opEqA) (eBin gIx (eV 7) (eV 9)) (eBin gIx (eV 7) (eV 10)))) (eC (.int 1)))) (eC (.int 0)))))
    (sIf (tNotM (tOf (eCall m__law_bool (aCons (eCall m_shows_sides (aCons (eV 1) (aCons (eV 7) aNil))) (aCons (eV 8) aNil))))) (sRet (eC (.bl false))) sNil))))
    (sRet (eC (.bl true)))) = T
  simp_arith
  refine W.step (law_sides_spec hl (by omega) (by omega) hg) ?_
  rintro _ ⟨sides, hs, hs2, rfl⟩
  simp_arith [opTuple_li, tup_p, opSl_p, one_p, opAdd_pp sides [0] (by simp; omega)]
  rw [eLc_all (ys := sides) (k := D.int) (fun y => .int (1 - y)) (tup_items rfl) (by omega), show sides.map (fun y => D.int (1 - y)) = (sides.map fun y => 1 - y).map D.int by rw [List.map_map]; rfl]
  · simp_arith [opTuple_li, tup_p]
    rw [show eLc (iSeq (eV 3)) [4] (tgName 4) tTrue (eCall m__law_take (aCons (eV 0) (aCons (eC (.int 2)) aNil))) = fun ρ m => (iSeq (eV 3) ρ m).bind fun p => (lcLoop (tgName 4) tTrue (eCall m__law_take (aCons (eV 0) (aCons (eC (.int 2)) aNil))) (wipeE ρ [4]) p.1 p.2).bind fun r => if r.1.length ≤ big then some (.d (.lst r.1), r.2) else none from rfl]
    simp_arith [itemsOf_p]
    refine W.lc (ys := sides) (k := D.int) (fun i ds m => ∃ (xs : List Int) (c' : Int), ds = xs.map .int ∧ m = [ck c'] ∧ xs.length = i ∧ c' = c + i) ⟨[], c, rfl, rfl, rfl, by simp⟩ ?_ ?_
    · rintro i y hy ds m ⟨xs, c', rfl, rfl, hx, hc⟩
      have hi := (List.getElem?_eq_some_iff.mp hy).1
      refine ⟨_, rfl, ?_⟩
      simp_arith
      refine ⟨fun _ => ?_, fun z => z.elim⟩
      refine W.bnd (W.step (take_spec (by omega) (by omega) (by omega)) ?_)
      rintro _ ⟨v, v0, v1, rfl⟩
      simp_arith
      exact ⟨xs ++ [v], _, by rw [List.map_append]; rfl, rfl, by simp; omega, by omega⟩
    · rintro ds m ⟨xs, c', rfl, rfl, hx, hc⟩
      simp_arith
      refine W.pos (by rw [hx]; unfold big; omega) ?_
      simp_arith [opTuple_li, tup_p]
      have hput : ∀ (x : Int), opAdd (planD (cutD sides none (some (n - 1)))) (planD [x]) = some (planD (cutD sides none (some (n - 1)) ++ [x])) := fun x => opAdd_pp _ _ (by have := cutD_len sides none (some (n - 1)); simp; omega)
      refine W.loopE D.int [-1, 1, 2] (by rfl) (fun i ρ m => ∃ x4, ∃ rows : List (List Int), ρ = [some (dl row t), some (.d (webD n ms)), some (.d (.int (n - 1))), some (.d (planD sides)), x4, some (.own 1), none, none, none, none, none] ∧ m = [ck c', .lst (rows.map planD)] ∧ (∀ w ∈ rows, w.length ≤ 30) ∧ rows.length = 5 + i) ?_ ?_ ?_
      · refine ⟨_, [sides, cutD sides (some 1) none, sides ++ [0], sides.map fun y => 1 - y, xs], rfl, rfl, ?_, rfl⟩
        intro w hw
        have := cutD_len sides (some 1) none
        simp only [List.mem_cons, List.not_mem_nil, or_false] at hw
        rcases hw with rfl | rfl | rfl | rfl | rfl <;> (try simp) <;> omega
      · rintro i y hy ρ m ⟨x4, rows, rfl, rfl, hw, hwl⟩
        have hi := (List.getElem?_eq_some_iff.mp hy).1
        simp only [List.length_cons, List.length_nil] at hi
        refine ⟨_, rfl, ?_⟩
        simp_arith [opSl_p, one_p, hput]
        rw [if_pos (by unfold big; omega)]
        simp_arith
        refine ⟨goes_nx, _, rows ++ [cutD sides none (some (n - 1)) ++ [y]], rfl, by rw [List.map_append]; rfl, fun w hw2 => ?_, by simp; omega⟩
        rcases List.mem_append.mp hw2 with hw2 | hw2
        · exact hw w hw2
        · rw [List.mem_singleton.mp hw2]
          have := cutD_len sides none (some (n - 1))
          simp
          omega
      · rintro ρ m ⟨x4, rows, rfl, rfl, hw, hwl⟩
        simp_arith
        refine W.rg ⟨by omega, by omega⟩ ?_
        simp_arith
        simp only [List.length_cons, List.length_nil] at hwl
        refine W.loop (fun i ρ m => ∃ x4 x6, ∃ rows : List (List Int), ρ = [some (dl row t), some (.d (webD n ms)), some (.d (.int (n - 1))), some (.d (planD sides)), x4, some (.own 1), x6, none, none, none, none] ∧ m = [ck c', .lst (rows.map planD)] ∧ (∀ w ∈ rows, w.length ≤ 30) ∧ rows.length = 8 + i) ⟨_, _, rows, rfl, rfl, hw, hwl⟩ ?_ ?_
        · rintro i y hy ρ m ⟨x4, x6, rows, rfl, rfl, hw, hwl⟩
          obtain ⟨hi, rfl⟩ := getElem?_range hy
          have hput : ∀ (x : Int), opAdd (planD (cutD sides none (some (y : Int)))) (planD [x]) = some (planD (cutD sides none (some (y : Int)) ++ [x])) := fun x => opAdd_pp _ _ (by have := cutD_len sides none (some (y : Int)); simp; omega)
          have hput2 : ∀ (x : Int), opAdd (planD (cutD sides none (some (y : Int)) ++ [x])) (planD (cutD sides (some ((y : Int) + 1)) none)) = some (planD (cutD sides none (some (y : Int)) ++ [x] ++ cutD sides (some ((y : Int) + 1)) none)) := fun x => opAdd_pp _ _ (by have := cutD_len sides none (some (y : Int)); have := cutD_len sides (some ((y : Int) + 1)) none; simp; omega)
          refine ⟨_, rfl, ?_⟩
          simp_arith [opSl_p, one_p, hput, hput2, opIx_p sides y (by omega) (by omega)]
          rw [if_pos (by unfold big; omega)]
          simp_arith
          refine ⟨goes_nx, _, _, rows ++ [cutD sides none (some (y : Int)) ++ [1 - sides.getD y 0] ++ cutD sides (some ((y : Int) + 1)) none], rfl, by rw [List.map_append]; rfl, fun w hw2 => ?_, by simp; omega⟩
          rcases List.mem_append.mp hw2 with hw2 | hw2
          · exact hw w hw2
          · rw [List.mem_singleton.mp hw2]
            have := put_len sides (y : Int) (1 - sides.getD y 0) (by omega)
            omega
        · rintro ρ m ⟨x4, x6, rows, rfl, rfl, hw, hwl⟩
          simp_arith
          rw [← hT]
          simp_arith
          refine W.loopE planD rows (by rfl) (fun i ρ m => m = [ck c', .frz (.lst (rows.map planD))] ∧ ∃ x4 x5 x6 x7 x8, ρ = [some (dl row t), some (.d (webD n ms)), some (.d (.int (n - 1))), some (.d (planD sides)), x4, x5, x6, x7, x8, none, none]) ⟨rfl, _, _, _, _, _, rfl⟩ ?_ ?_
          · rintro i r hr ρ m ⟨rfl, x4, x5, x6, x7, x8, rfl⟩
            have hrl := hw r (List.mem_of_getElem? hr)
            have sj := shows_sides_eq n ms r [ck c', O.frz (D.lst (rows.map planD))] (by omega) (by omega) hg
            refine ⟨_, rfl, ?_⟩
            simp_arith [opLen_p]
            by_cases e1 : (r.length : Int) = n
            · rw [decide_eq_true e1]
              simp_arith
              rw [eLc_map (ys := r) (k := D.int) (fun x => !decide (x ∈ [(0 : Int), 1])) (fun _ => .int 1) (tup_items rfl) (by omega)]
              · simp_arith
                rw [count_tr (P := ∀ x ∈ r, x ∈ [(0 : Int), 1]) ⟨fun z x hx => notDec' (z x hx), fun z x hx => notDec (z x hx)⟩]
                by_cases e2 : ∀ x ∈ r, x ∈ [(0 : Int), 1]
                · rw [tr_true e2]
                  simp_arith
                  rw [eLc_map (ys := ms) (k := pairD) (fun q => decide (r.getD q.1.toNat 0 = r.getD q.2.toNat 0)) (fun _ => .int 1) (ms_items rfl) (by omega)]
                  · simp_arith
                    rw [count_tr (P := Sides n ms r) ⟨fun z q hq => decide_eq_false (z.2 q hq), fun z => ⟨⟨e1, e2⟩, fun q hq => of_decide_eq_false (z q hq)⟩⟩]
                    simp_arith [sj, law_bool_eq]
                    exact ⟨goes_nx, by trivial, _, _, _, _, _, rfl⟩
                  · intro q hq
                    have hgq := hg q hq
                    refine ⟨_, rfl, ?_, fun _ => by simp_arith⟩
                    simp_arith [opIx_p r q.1 hgq.1 (by omega), opIx_p r q.2 (by omega) (by omega)]
                · rw [tr_false e2]
                  simp_arith [sj, law_bool_eq]
                  rw [tr_false (p := Sides n ms r) fun z => e2 z.1.2]
                  simp_arith
                  exact ⟨goes_nx, by trivial, _, _, _, _, _, rfl⟩
              · intro x hx
                refine ⟨_, rfl, ?_, fun _ => by simp_arith⟩
                simp_arith [show D.lst [.int 0, .int 1] = .lst ([(0 : Int), 1].map .int) from rfl, opNotIn_ints]
            · rw [decide_eq_false e1]
              simp_arith [sj, law_bool_eq]
              rw [tr_false (p := Sides n ms r) fun z => e1 z.1.1]
              simp_arith
              exact ⟨goes_nx, by trivial, _, _, _, _, _, rfl⟩
          · rintro ρ m ⟨rfl, x4, x5, x6, x7, x8, rfl⟩
            simp_arith
            exact ⟨c', by omega, by omega, rfl⟩
  · intro y hy
    refine ⟨_, rfl, ?_⟩
    simp_arith
end Lw
namespace Lw
open PySem PySem.Spec L2 PL
set_option autoImplicit false
local macro_rules | `(tactic| simp_arith [$ls,*]) => `(tactic| try simp (maxSteps := 2000000) only [eV, eC, eBin, g2, eUn, eBi, eCall, aNil, aCons, sSeq, sRet, sIf, sSet, sAsg, sExp, tgName, tgTup_pair, sNil, eIf, tAndM, tOrM, tNotM, eAnd, eOr, eNot, tTrue, sFor, iRange1_bind, iSeq, eSl, oNone, oSome, opNeg_i, opSl_l, opSl_t, tOf_eq, look_d, frzE_d, frzAll, eLst, eTup, eLstO, eApp, sPutL, cellL, look, frzE, gIx_d, gIx_own, gIx_deal, dealAt, intOf, opAdd_i, opI_i, opEqA_i, opNeA_i, opEqA_b, opLen_l, opLen_t, opLen_s, opLen_d, itemsOf_l, itemsOf_t, opTuple_l, opTuple_t, opList_l, opList_t, opIx_web0, opIx_web1, opIx_ck, opIn_pair, opNotIn_pair, wipeE, fin, ck, 
  Option.bind_some, Option.bind_none, Option.bind_assoc, W_some, List.map_cons, List.map_nil, List.replicate, List.cons_append, List.nil_append, List.getElem?_cons_zero, List.getElem?_cons_succ, List.set_cons_zero, List.set_cons_succ, List.length_cons, List.length_nil, List.take_succ_cons, List.take_zero, List.take_nil, List.take_length, List.length_append, Nat.zero_add, Nat.lt_irrefl, Option.map_some, List.length_map, Int.toNat_natCast, if_true, if_false, Bool.false_eq_true, Bool.not_true, Bool.not_false, decide_true, decide_false, reduceCtorEq, lb0, lb1, lb2, lb3, lb4, lb5, lb6, lb7, lb8, lb9, lb10, lb11, lb12, lb13, lb14, lb15, lb16, lb17, $ls,*])
local macro_rules | `(tactic| simp_arith) => `(tactic| simp_arith [Option.bind_some])
/-! ### sorted people, watches -/
def Sorted (n : Int) (ps : List Int) : Prop := ∀ i : Nat, i < ps.length → (0 ≤ ps.getD i 0 ∧ ps.getD i 0 < n) ∧ (0 < i → ps.getD (i - 1) 0 < ps.getD i 0)
theorem judge_sorted {f : Bool → Bool} : True := trivial
theorem are_people_eq (n : Int) (ms : Ms) (ps : List Int) (m : Store) (hp : ps.length ≤ 1000) : m_are_people [.d (webD n ms), .d (planD ps)] m = some (.d (.bl (tr (Sorted n ps))), m) := by
  unfold m_are_people
  rw [fnD_eq 2 1 b_are_people _ m rfl]
  unfold b_are_people
  simp_arith [opLen_p]
  rw [rgK_eq (by omega), Option.bind_some]
  simp_arith
  generalize hx : forL _ _ _ _ _ = x
  refine Or.elim (forL_srch (fun i : Nat => ¬ ((0 ≤ ps.getD i 0 ∧ ps.getD i 0 < n) ∧ (0 < i → ps.getD (i - 1) 0 < ps.getD i 0))) (fun ρ => ∃ x2, ρ = [some (.d (webD n ms)), some (.d (planD ps)), x2]) (.d (.bl false)) hx ⟨none, rfl⟩ ?_) (fun ⟨h1, ρ2, ⟨x2, e4⟩, h2⟩ => ?_) (fun ⟨h1, ρ2, h2⟩ => ?_)
  · intro i hi ρ hρ
    obtain ⟨x2, rfl⟩ := hρ
    have hi := List.mem_range.mp hi
    refine ⟨_, rfl, ?_⟩
    simp_arith [chain_le_lt (fa := eC (.int 0)) (fb := eBin gIx (eV 1) (eV 2)) (fc := eBin gIx (eV 0) (eC (.int 0))) (m := m) (a := 0) (b := ps.getD i 0) (c := n) (ρ := [some (.d (webD n ms)), some (.d (planD ps)), some (.d (.int (i : Int)))]) rfl (by simp_arith [opIx_p ps i (by omega) (by omega)]) rfl]
    by_cases c1 : 0 ≤ ps.getD i 0 ∧ ps.getD i 0 < n
    · rw [decide_eq_true c1]
      simp_arith
      by_cases c0 : (0 : Int) < (i : Int)
      · rw [decide_eq_true c0]
        have e : ((i : Int) - 1).toNat = i - 1 := by omega
        simp_arith [opIx_p ps i (by omega) (by omega), opIx_p ps ((i : Int) - 1) (by omega) (by omega), e]
        by_cases c2 : ps.getD (i - 1) 0 < ps.getD i 0
        · rw [decide_eq_true c2]
          exact .inr ⟨fun z => z ⟨c1, fun _ => c2⟩, _, ⟨_, rfl⟩, rfl⟩
        · rw [decide_eq_false c2]
          exact .inl ⟨fun z => c2 (z.2 (by omega)), _, rfl⟩
      · rw [decide_eq_false c0]
        exact .inr ⟨fun z => z ⟨c1, fun w => absurd w (by omega)⟩, _, ⟨_, rfl⟩, rfl⟩
    · rw [decide_eq_false c1]
      exact .inl ⟨fun z => c1 z.1, _, rfl⟩
  · rw [h2, e4]
    simp_arith
    rw [tr_true (p := Sorted n ps) fun i hi => Classical.byContradiction (h1 i (List.mem_range.mpr hi))]
  · rw [h2]
    simp_arith
    obtain ⟨i, hi, hc⟩ := h1
    rw [tr_false (p := Sorted n ps) fun z => hc (z i (List.mem_range.mp hi))]
theorem law_sorted_eq (n : Int) (ms : Ms) (ps : List Int) (m : Store) (hp : ps.length ≤ 1000) : m__law_sorted [.d (webD n ms), .d (planD ps)] m = some (.d (.bl (tr (Sorted n ps))), m) := by
  unfold m__law_sorted
  rw [fnD_eq 2 1 b__law_sorted _ m rfl]
  unfold b__law_sorted
  simp_arith [opLen_p]
  rw [rgK_eq (by omega), Option.bind_some]
  simp_arith
  generalize hx : forL _ _ _ _ _ = x
  refine Or.elim (forL_srch (fun i : Nat => ¬ ((0 ≤ ps.getD i 0 ∧ ps.getD i 0 < n) ∧ (0 < i → ps.getD (i - 1) 0 < ps.getD i 0))) (fun ρ => ∃ x2, ρ = [some (.d (webD n ms)), some (.d (planD ps)), x2]) (.d (.bl false)) hx ⟨none, rfl⟩ ?_) (fun ⟨h1, ρ2, ⟨x2, e4⟩, h2⟩ => ?_) (fun ⟨h1, ρ2, h2⟩ => ?_)
  · intro i hi ρ hρ
    obtain ⟨x2, rfl⟩ := hρ
    have hi := List.mem_range.mp hi
    refine ⟨_, rfl, ?_⟩
    simp_arith [chain_le_lt (fa := eC (.int 0)) (fb := eBin gIx (eV 1) (eV 2)) (fc := eBin gIx (eV 0) (eC (.int 0))) (m := m) (a := 0) (b := ps.getD i 0) (c := n) (ρ := [some (.d (webD n ms)), some (.d (planD ps)), some (.d (.int (i : Int)))]) rfl (by simp_arith [opIx_p ps i (by omega) (by omega)]) rfl]
    by_cases c1 : 0 ≤ ps.getD i 0 ∧ ps.getD i 0 < n
    · rw [decide_eq_true c1]
      simp_arith
      by_cases c0 : (0 : Int) < (i : Int)
      · rw [decide_eq_true c0]
        have e : ((i : Int) - 1).toNat = i - 1 := by omega
        simp_arith [opIx_p ps i (by omega) (by omega), opIx_p ps ((i : Int) - 1) (by omega) (by omega), e]
        by_cases c2 : ps.getD (i - 1) 0 < ps.getD i 0
        · rw [decide_eq_false (by omega : ¬ ps.getD i 0 ≤ ps.getD (i - 1) 0)]
          exact .inr ⟨fun z => z ⟨c1, fun _ => c2⟩, _, ⟨_, rfl⟩, rfl⟩
        · rw [decide_eq_true (by omega : ps.getD i 0 ≤ ps.getD (i - 1) 0)]
          exact .inl ⟨fun z => c2 (z.2 (by omega)), _, rfl⟩
      · rw [decide_eq_false c0]
        exact .inr ⟨fun z => z ⟨c1, fun w => absurd w (by omega)⟩, _, ⟨_, rfl⟩, rfl⟩
    · rw [decide_eq_false c1]
      exact .inl ⟨fun z => c1 z.1, _, rfl⟩
  · rw [h2, e4]
    simp_arith
    rw [tr_true (p := Sorted n ps) fun i hi => Classical.byContradiction (h1 i (List.mem_range.mpr hi))]
  · rw [h2]
    simp_arith
    obtain ⟨i, hi, hc⟩ := h1
    rw [tr_false (p := Sorted n ps) fun z => hc (z i (List.mem_range.mp hi))]
theorem if_tr {b : Bool} {p : Prop} (h : p ↔ b = true) : tr p = b := by
  cases b with
  | true => exact tr_true (h.mpr rfl)
  | false => exact tr_false fun z => Bool.noConfusion (h.mp z)
def Watched (ms : Ms) (ps : List Int) : Prop := ∀ q ∈ ms, ¬ (¬ q.1 ∈ ps ∧ ¬ q.2 ∈ ps)
theorem watch_bit (ps : List Int) (q : Int × Int) : (if decide (¬ q.1 ∈ ps) = true then decide (¬ q.2 ∈ ps) else false) = decide (¬ q.1 ∈ ps ∧ ¬ q.2 ∈ ps) := by
  by_cases h1 : q.1 ∈ ps <;> by_cases h2 : q.2 ∈ ps <;> simp [h1, h2]
theorem shows_watch_eq (n : Int) (ms : Ms) (ps : List Int) (m : Store) (hl : ms.length ≤ 1000) (hp : ps.length ≤ 1000) : m_shows_watch [.d (webD n ms), .d (planD ps)] m = some (.d (.bl (tr (Sorted n ps ∧ Watched ms ps))), m) := by
  refine W.toEq ?_
  unfold m_shows_watch
  rw [fnD_eq 2 2 b_shows_watch _ m rfl]
  unfold b_shows_watch
  simp_arith [are_people_eq n ms ps m hp]
  by_cases e1 : Sorted n ps
  · rw [tr_true e1]
    simp_arith
    rw [eLc_map (ys := ms) (k := pairD) (fun q => decide (¬ q.1 ∈ ps ∧ ¬ q.2 ∈ ps)) (fun _ => .int 1) (ms_items rfl) (by omega)]
    · simp_arith
      rw [count_tr (P := Sorted n ps ∧ Watched ms ps) ⟨fun z q hq => decide_eq_false (z.2 q hq), fun z => ⟨e1, fun q hq => of_decide_eq_false (z q hq)⟩⟩]
    · intro q hq
      refine ⟨_, rfl, ?_, fun _ => by simp_arith⟩
      simp_arith [opNotIn_p]
      by_cases h1 : q.1 ∈ ps
      · simp_arith [decide_eq_true h1]
        simp [h1]
      · simp_arith [decide_eq_false h1, opNotIn_p]
        simp [h1]
  · rw [tr_false e1, tr_false fun z => e1 z.1]
    simp_arith
/-! ### parts -/
def outs (n : Int) (ps : List Int) : List Int := ((List.range n.toNat).filter fun (p : Nat) => !decide ((p : Int) ∈ ps)).map fun (p : Nat) => (p : Int)
theorem mem_outs {n : Int} {ps : List Int} {p : Int} : p ∈ outs n ps ↔ (0 ≤ p ∧ p < n) ∧ p ∉ ps := by
  unfold outs
  rw [List.mem_map]
  constructor
  · rintro ⟨i, hi, rfl⟩
    obtain ⟨h1, h2⟩ := List.mem_filter.mp hi
    have := List.mem_range.mp h1
    exact ⟨⟨by omega, by omega⟩, fun z => by rw [decide_eq_true z] at h2; cases h2⟩
  · rintro ⟨⟨h0, h1⟩, h2⟩
    exact ⟨p.toNat, List.mem_filter.mpr ⟨List.mem_range.mpr (by omega), notDec' (p := ¬ p ∈ ps) h2 |> fun z => by rw [Int.toNat_of_nonneg h0]; simp [h2]⟩, by omega⟩
theorem outs_nodup (n : Int) (ps : List Int) : (outs n ps).Nodup := by
  unfold outs
  rw [List.nodup_iff_pairwise_ne, List.pairwise_map]
  exact ((List.nodup_iff_pairwise_ne.mp List.nodup_range).filter _).imp fun h e => h (by omega)
theorem outs_len (n : Int) (ps : List Int) : (outs n ps).length ≤ n.toNat := by
  unfold outs
  rw [List.length_map]
  have := List.length_filter_le (fun (p : Nat) => !decide ((p : Int) ∈ ps)) (List.range n.toNat)
  rw [List.length_range] at this
  exact this
/-- two people outside ps meet -/
def Adj (n : Int) (ms : Ms) (ps : List Int) (p q : Int) : Prop := (p ∈ outs n ps ∧ q ∈ outs n ps) ∧ ∃ x ∈ ms, (x = (p, q) ∨ x = (q, p))
theorem adj_symm (n : Int) (ms : Ms) (ps : List Int) : ∀ p q, Adj n ms ps p q → Adj n ms ps q p := fun p q ⟨⟨h1, h2⟩, x, hx, h⟩ => ⟨⟨h2, h1⟩, x, hx, h.symm⟩
theorem adj_mem (n : Int) (ms : Ms) (ps : List Int) : ∀ p q, Adj n ms ps p q → p ∈ outs n ps ∧ q ∈ outs n ps := fun _ _ h => h.1
end Lw
namespace Lw
open PySem PySem.Spec L2 PL
set_option autoImplicit false
local macro_rules | `(tactic| simp_arith [$ls,*]) => `(tactic| try simp (maxSteps := 2000000) only [eV, eC, eBin, g2, eUn, eBi, eCall, aNil, aCons, sSeq, sRet, sIf, sSet, sAsg, sExp, tgName, tgTup_pair, sNil, eIf, tAndM, tOrM, tNotM, eAnd, eOr, eNot, tTrue, sFor, iRange1_bind, iSeq, eSl, oNone, oSome, opNeg_i, opSl_l, opSl_t, tOf_eq, look_d, frzE_d, frzAll, eLst, eTup, eLstO, eApp, sPutL, cellL, look, frzE, gIx_d, gIx_own, gIx_deal, dealAt, intOf, opAdd_i, opI_i, opEqA_i, opNeA_i, opEqA_b, opLen_l, opLen_t, opLen_s, opLen_d, itemsOf_l, itemsOf_t, opTuple_l, opTuple_t, opList_l, opList_t, opIx_web0, opIx_web1, opIx_ck, opIn_pair, opNotIn_pair, wipeE, fin, ck, 
  Option.bind_some, Option.bind_none, Option.bind_assoc, W_some, List.map_cons, List.map_nil, List.replicate, List.cons_append, List.nil_append, List.getElem?_cons_zero, List.getElem?_cons_succ, List.set_cons_zero, List.set_cons_succ, List.length_cons, List.length_nil, List.take_succ_cons, List.take_zero, List.take_nil, List.take_length, List.length_append, Nat.zero_add, Nat.lt_irrefl, Option.map_some, List.length_map, Int.toNat_natCast, if_true, if_false, Bool.false_eq_true, Bool.not_true, Bool.not_false, decide_true, decide_false, reduceCtorEq, lb0, lb1, lb2, lb3, lb4, lb5, lb6, lb7, lb8, lb9, lb10, lb11, lb12, lb13, lb14, lb15, lb16, lb17, $ls,*])
local macro_rules | `(tactic| simp_arith) => `(tactic| simp_arith [Option.bind_some])
theorem snoc_get {α : Type} (r : List α) (x : α) : (r ++ [x])[r.length]? = some x := by simp
theorem snoc_set {α : Type} (r : List α) (x y : α) : (r ++ [x]).set r.length y = r ++ [y] := by
  rw [List.set_append_right _ _ (Nat.le_refl _), Nat.sub_self]
  rfl
theorem putD_left {ks : List Int} {p : Int} (h : p ∉ ks) : putD (leftK ks) (.inl p) (.bl true) = leftK (ks ++ [p]) := by
  unfold putD
  rw [if_neg]
  · unfold leftK; rw [List.map_append]; rfl
  · intro z
    obtain ⟨kv, h1, h2⟩ := List.any_eq_true.mp z
    unfold leftK at h1
    obtain ⟨i, hi, rfl⟩ := List.mem_map.mp h1
    have := Sum.inl.inj (of_decide_eq_true h2)
    exact h (by rw [← this]; exact hi)
theorem dc_leftJ (j : Nat) (ρ : Rho) (hρ : j < ρ.length) (m : Store) : ∀ (ys acc : List Int), (acc ++ ys).Nodup → (acc ++ ys).length ≤ 1000 → dcLoop (tgName j) tTrue (eV j) (eC (.bl true)) ρ (ys.map D.int) (leftK acc) m = some (leftK (acc ++ ys), m)
  | [], acc, _, _ => by rw [List.append_nil]; rfl
  | y :: ys, acc, hn, hl => by
    rw [List.map_cons]
    have e : (ρ.set j (some (.d (.int y))))[j]? = some (some (.d (.int y))) := by
      rw [List.getElem?_set_self hρ]
    have hy : ¬ y ∈ acc := fun z => (List.nodup_append.mp hn).2.2 y z y List.mem_cons_self rfl
    have hal : (leftK acc).length < big := by
      unfold leftK big
      rw [List.length_append] at hl
      rw [List.length_map]
      omega
    show ((tgName j (.d (.int y)) ρ).bind _) = _
    rw [show tgName j (.d (.int y)) ρ = some (ρ.set j (some (.d (.int y)))) from rfl, Option.bind_some]
    show ((eV j (ρ.set j (some (.d (.int y)))) m).bind _) = _
    have e3 : eV j (ρ.set j (some (.d (.int y)))) m = some (.d (.int y), m) := by unfold eV; rw [e]
    rw [e3]
    show (if (leftK acc).length < big then dcLoop (tgName j) tTrue (eV j) (eC (.bl true)) ρ (ys.map D.int) (putD (leftK acc) (.inl y) (.bl true)) m else none) = _
    rw [if_pos hal, putD_left hy, dc_leftJ j ρ hρ m ys (acc ++ [y]) (by rw [List.append_assoc]; exact hn) (by rw [List.append_assoc]; exact hl), List.append_assoc]
    rfl
def oth (ms : Ms) (z v : Int) : Int := if v = (pr ms z.toNat).1 then (pr ms z.toNat).2 else (pr ms z.toNat).1
theorem oth_range {n : Int} {ms : Ms} (hg : Good n ms) {z v : Int} (hz : z ∈ meets ms v) : (0 ≤ oth ms z v ∧ oth ms z v < n) ∧ (pr ms z.toNat = (v, oth ms z v) ∨ pr ms z.toNat = (oth ms z v, v)) ∧ pr ms z.toNat ∈ ms := by
  obtain ⟨z0, z1, h⟩ := meets_mem hz
  have hm : pr ms z.toNat ∈ ms := pr_mem (by omega)
  have := hg _ hm
  unfold oth
  by_cases e : v = (pr ms z.toNat).1
  · rw [if_pos e]
    exact ⟨⟨by omega, by omega⟩, .inl (by rw [e]), hm⟩
  · rw [if_neg e]
    have h := h.resolve_left e
    exact ⟨⟨by omega, by omega⟩, .inr (by rw [h]), hm⟩
theorem oth_adj {n : Int} {ms : Ms} {ps : List Int} (hg : Good n ms) {v q : Int} (h : Adj n ms ps v q) : ∃ z ∈ meets ms v, oth ms z v = q := by
  obtain ⟨_, x, hx, e⟩ := h
  obtain ⟨j, hj, ej⟩ := List.getElem_of_mem hx
  have hp : pr ms j = x := by unfold pr; rw [List.getD_eq_getElem?_getD, List.getElem?_eq_getElem hj, ej]; rfl
  have hgx := hg x hx
  refine ⟨(j : Int), ?_, ?_⟩
  · unfold meets
    refine List.mem_map.mpr ⟨j, List.mem_filter.mpr ⟨List.mem_range.mpr hj, decide_eq_true ?_⟩, rfl⟩
    rw [hp]
    rcases e with rfl | rfl
    · exact .inl rfl
    · exact .inr rfl
  · unfold oth
    rw [Int.toNat_natCast, hp]
    rcases e with rfl | rfl
    · rw [if_pos rfl]
    · have hgx : 0 ≤ q ∧ q < v ∧ v < n := hgx
      rw [if_neg (by show ¬ v = q; omega)]
/-- what the walk of parts knows before start i -/
structure PartsAt (n : Int) (ms : Ms) (ps : List Int) (i : Nat) (l : List Int) (num : Int) : Prop where
  nd : l.Nodup
  mem : ∀ p, p ∈ l ↔ ∃ s : Nat, s < i ∧ (s : Int) ∈ outs n ps ∧ Rch (Adj n ms ps) s p
  num : num = (((List.range i).filter fun (s : Nat) => decide ((s : Int) ∈ outs n ps) && oddB (Adj n ms ps) (outs n ps) s).length : Int)
theorem PartsAt.inside {n : Int} {ms : Ms} {ps : List Int} {i : Nat} {l : List Int} {num : Int} (h : PartsAt n ms ps i l num) {p : Int} (hp : p ∈ l) : p ∈ outs n ps := by
  obtain ⟨s, _, hs, hr⟩ := (h.mem p).mp hp
  exact hr.mem (adj_mem n ms ps) hs
theorem PartsAt.skip {n : Int} {ms : Ms} {ps : List Int} {i : Nat} {l : List Int} {num : Int} (h : PartsAt n ms ps i l num) (hi : (i : Int) ∈ ps ∨ (i : Int) ∈ l) : PartsAt n ms ps (i + 1) l num := by
  have out : (i : Int) ∈ outs n ps → ∃ s : Nat, s < i ∧ (s : Int) ∈ outs n ps ∧ Rch (Adj n ms ps) s i := fun ho => by
    rcases hi with hi | hi
    · exact absurd hi (mem_outs.mp ho).2
    · exact (h.mem _).mp hi
  refine ⟨h.nd, fun p => ⟨fun hp => ?_, fun ⟨s, hs, ho, hr⟩ => ?_⟩, ?_⟩
  · obtain ⟨s, hs, w⟩ := (h.mem p).mp hp
    exact ⟨s, by omega, w⟩
  · by_cases e : s = i
    · subst e
      obtain ⟨s', hs', ho', hr'⟩ := out ho
      exact (h.mem p).mpr ⟨s', hs', ho', hr'.trans hr⟩
    · exact (h.mem p).mpr ⟨s, by omega, ho, hr⟩
  · have : (decide ((i : Int) ∈ outs n ps) && oddB (Adj n ms ps) (outs n ps) i) = false := by
      by_cases ho : (i : Int) ∈ outs n ps
      · obtain ⟨s, hs, _, hr⟩ := out ho
        have : ¬ Least (Adj n ms ps) (i : Int) := fun z => by
          have := z s (hr.symm (adj_symm n ms ps))
          omega
        unfold oddB
        rw [tr_false this, Bool.false_and, Bool.and_false]
      · rw [decide_eq_false ho, Bool.false_and]
    rw [List.range_succ, List.filter_append, List.length_append, List.filter_cons, this, if_neg Bool.false_ne_true]
    exact h.num
theorem PartsAt.next {n : Int} {ms : Ms} {ps : List Int} {i : Nat} {l met : List Int} {num : Int} (h : PartsAt n ms ps i l num) (hi : (i : Int) ∈ outs n ps) (hl : (i : Int) ∉ l) (nd : (l ++ met).Nodup) (hm : ∀ p, p ∈ met ↔ Rch (Adj n ms ps) i p) : PartsAt n ms ps (i + 1) (l ++ met) (num + (met.length : Int) % 2) := by
  refine ⟨nd, fun p => ⟨fun hp => ?_, fun ⟨s, hs, ho, hr⟩ => ?_⟩, ?_⟩
  · rcases List.mem_append.mp hp with hp | hp
    · obtain ⟨s, hs, w⟩ := (h.mem p).mp hp
      exact ⟨s, by omega, w⟩
    · exact ⟨i, by omega, hi, (hm p).mp hp⟩
  · by_cases e : s = i
    · subst e
      exact List.mem_append_right _ ((hm p).mpr hr)
    · exact List.mem_append_left _ ((h.mem p).mpr ⟨s, by omega, ho, hr⟩)
  · have least : Least (Adj n ms ps) (i : Int) := fun q hq => by
      refine Int.not_lt.mp fun z => hl ?_
      have ho := hq.mem (adj_mem n ms ps) hi
      have q0 := (mem_outs.mp ho).1.1
      exact (h.mem _).mpr ⟨q.toNat, by omega, by rw [Int.toNat_of_nonneg q0]; exact ho, by rw [Int.toNat_of_nonneg q0]; exact hq.symm (adj_symm n ms ps)⟩
    have hlen : (partOf (Adj n ms ps) (outs n ps) i).length = met.length := by
      refine same_len ((outs_nodup n ps).filter _) (List.nodup_append.mp nd).2.1 fun x => ?_
      unfold partOf
      rw [List.mem_filter, hm]
      exact ⟨fun z => tr_iff.mp z.2, fun z => ⟨z.mem (adj_mem n ms ps) hi, tr_iff.mpr z⟩⟩
    have e : (decide ((i : Int) ∈ outs n ps) && oddB (Adj n ms ps) (outs n ps) i) = decide (met.length % 2 = 1) := by
      unfold oddB
      rw [decide_eq_true hi, tr_true least, Bool.true_and, Bool.true_and, hlen]
    rw [List.range_succ, List.filter_append, List.length_append, List.filter_cons, e, h.num]
    by_cases q : met.length % 2 = 1
    · rw [decide_eq_true q, if_pos rfl]
      simp
      omega
    · rw [decide_eq_false q, if_neg Bool.false_ne_true]
      simp
      omega
/-- within one part: the met ones -/
structure MetAt (n : Int) (ms : Ms) (ps l : List Int) (s : Int) (a : Nat) (met : List Int) : Prop where
  nd : (l ++ met).Nodup
  has : s ∈ met
  rch : ∀ p ∈ met, Rch (Adj n ms ps) s p
  le : a ≤ met.length
  shut : ∀ j : Nat, j < a → ∀ q, Adj n ms ps (met.getD j 0) q → q ∈ met
end Lw
namespace Lw
open PySem PySem.Spec L2 PL
set_option autoImplicit false
local macro_rules | `(tactic| simp_arith [$ls,*]) => `(tactic| try simp (maxSteps := 2000000) only [eV, eC, eBin, g2, eUn, eBi, eCall, aNil, aCons, sSeq, sRet, sIf, sSet, sAsg, sExp, tgName, tgTup_pair, sNil, eIf, tAndM, tOrM, tNotM, eAnd, eOr, eNot, tTrue, sFor, iRange1_bind, iSeq, eSl, oNone, oSome, opNeg_i, opSl_l, opSl_t, tOf_eq, look_d, frzE_d, frzAll, eLst, eTup, eLstO, eApp, sPutL, cellL, look, frzE, gIx_d, gIx_own, gIx_deal, dealAt, intOf, opAdd_i, opI_i, opEqA_i, opNeA_i, opEqA_b, opLen_l, opLen_t, opLen_s, opLen_d, itemsOf_l, itemsOf_t, opTuple_l, opTuple_t, opList_l, opList_t, opIx_web0, opIx_web1, opIx_ck, opIn_pair, opNotIn_pair, wipeE, fin, ck, 
  Option.bind_some, Option.bind_none, Option.bind_assoc, W_some, List.map_cons, List.map_nil, List.replicate, List.cons_append, List.nil_append, List.getElem?_cons_zero, List.getElem?_cons_succ, List.set_cons_zero, List.set_cons_succ, List.length_cons, List.length_nil, List.take_succ_cons, List.take_zero, List.take_nil, List.take_length, List.length_append, Nat.zero_add, Nat.lt_irrefl, Option.map_some, List.length_map, Int.toNat_natCast, if_true, if_false, Bool.false_eq_true, Bool.not_true, Bool.not_false, decide_true, decide_false, reduceCtorEq, lb0, lb1, lb2, lb3, lb4, lb5, lb6, lb7, lb8, lb9, lb10, lb11, lb12, lb13, lb14, lb15, lb16, lb17, $ls,*])
local macro_rules | `(tactic| simp_arith) => `(tactic| simp_arith [Option.bind_some])
theorem oddN_range (n : Int) (ms : Ms) (ps : List Int) : ((List.range n.toNat).filter fun (s : Nat) => decide ((s : Int) ∈ outs n ps) && oddB (Adj n ms ps) (outs n ps) s).length = oddN (Adj n ms ps) (outs n ps) := by
  have e : outs n ps = ((List.range n.toNat).filter fun (p : Nat) => !decide ((p : Int) ∈ ps)).map fun (p : Nat) => (p : Int) := rfl
  unfold oddN
  conv => rhs; rw [e, List.filter_map, List.length_map, List.filter_filter]
  congr 1
  refine List.filter_congr fun s hs => ?_
  have hs := List.mem_range.mp hs
  rw [Bool.and_comm]
  have : decide ((s : Int) ∈ outs n ps) = !decide ((s : Int) ∈ ps) := by
    by_cases h : (s : Int) ∈ ps
    · rw [decide_eq_true h, decide_eq_false fun z => (mem_outs.mp z).2 h]; rfl
    · rw [decide_eq_false h, decide_eq_true (mem_outs.mpr ⟨⟨by omega, by omega⟩, h⟩)]; rfl
  rw [this, ← e]
  rfl
theorem sorted_nodup {n : Int} {ps : List Int} (h : Sorted n ps) : ps.Nodup ∧ ∀ p ∈ ps, 0 ≤ p ∧ p < n := by
  have up : ∀ i j : Nat, i < j → j < ps.length → ps.getD i 0 < ps.getD j 0 := fun i j hij => by
    induction j with
    | zero => omega
    | succ j ih =>
      intro hj
      have := (h (j + 1) hj).2 (by omega)
      rw [Nat.add_sub_cancel] at this
      by_cases e : i = j
      · rw [e]; exact this
      · have := ih (by omega) (by omega)
        omega
  refine ⟨?_, fun p hp => ?_⟩
  · rw [List.nodup_iff_pairwise_ne, List.pairwise_iff_getElem]
    intro i j hi hj hij e
    have := up i j hij hj
    rw [List.getD_eq_getElem?_getD, List.getElem?_eq_getElem hi, List.getD_eq_getElem?_getD, List.getElem?_eq_getElem hj] at this
    have this : ps[i] < ps[j] := this
    omega
  · obtain ⟨j, hj, e⟩ := List.getElem_of_mem hp
    have := (h j hj).1
    rw [List.getD_eq_getElem?_getD, List.getElem?_eq_getElem hj] at this
    rw [← e]
    exact this
theorem getD_append_left {α : Type} (xs ys : List α) (d : α) {j : Nat} (h : j < xs.length) : (xs ++ ys).getD j d = xs.getD j d := by
  rw [List.getD_eq_getElem?_getD, List.getD_eq_getElem?_getD, List.getElem?_append_left h]
theorem odd_parts_spec {n : Int} {ms : Ms} {ps : List Int} {o : O} (hl : ms.length ≤ 100) (hn : 0 ≤ n) (hn1 : n ≤ 100) (hg : Good n ms) (hs : Sorted n ps) (hpl : ps.length ≤ 100) : m_odd_parts [.d (webD n ms), .d (planD ps)] [o] = some (.d (.int (oddN (Adj n ms ps) (outs n ps) : Nat)), [o]) := by
  refine W.toEq ?_
  obtain ⟨psn, psr⟩ := sorted_nodup hs
  unfold m_odd_parts
  rw [fnD_eq 2 8 b_odd_parts _ _ rfl]
  unfold b_odd_parts
  simp_arith [eDcO, itemsOf_p]
  refine W.eq (dc_leftJ 9 _ (by simp) _ ps [] (by rw [List.nil_append]; exact psn) (by rw [List.nil_append]; omega)) ?_
  rw [List.nil_append]
  simp_arith
  refine W.rg ⟨by omega, by omega⟩ ?_
  simp_arith
  have hmo : ∀ {l : List Int} {i : Nat} {num : Int}, PartsAt n ms ps i l num → l.length ≤ n.toNat := fun h => Nat.le_trans (List.Nodup.length_le_of_subset h.nd fun p hp => h.inside hp) (outs_len n ps)
  refine W.loop (fun i ρ m => ∃ (l : List Int) (num : Int) (r : Store) (x4 x5 x6 x7 x8 : Option E), PartsAt n ms ps i l num ∧ m = o :: .dic (leftK (ps ++ l)) :: r ∧ ρ = [some (.d (webD n ms)), some (.d (planD ps)), some (.own 1), some (.d (.int num)), x4, x5, x6, x7, x8, none]) ?_ ?_ ?_
  · exact ⟨[], 0, [], _, _, _, _, _, ⟨by simp, fun p => ⟨(fun h => by cases h), fun ⟨s, hs, _⟩ => absurd hs (by omega)⟩, rfl⟩, by rw [List.append_nil], rfl⟩
  · rintro i y hy ρ m ⟨l, num, r, x4, x5, x6, x7, x8, hP, rfl, rfl⟩
    obtain ⟨hi, rfl⟩ := getElem?_range hy
    refine ⟨_, rfl, ?_⟩
    simp_arith [eNotInD, dget_int, valD_left]
    by_cases hk : (y : Int) ∈ ps ++ l
    · rw [decide_eq_true hk]
      simp_arith
      exact ⟨goes_nx, l, num, r, _, _, _, _, _, hP.skip (List.mem_append.mp hk), rfl, rfl⟩
    · rw [decide_eq_false hk]
      have hk1 : (y : Int) ∉ ps := fun z => hk (List.mem_append_left _ z)
      have hk2 : (y : Int) ∉ l := fun z => hk (List.mem_append_right _ z)
      have ho : (y : Int) ∈ outs n ps := mem_outs.mpr ⟨⟨by omega, by omega⟩, hk1⟩
      have hpy : putD (leftK (ps ++ l)) (.inl (y : Int)) (.bl true) = leftK (ps ++ (l ++ [(y : Int)])) := by rw [putD_left hk, List.append_assoc]
      have hll := hmo hP
      have hbig : (leftK (ps ++ l)).length < big := by
        unfold leftK big
        rw [List.length_map, List.length_append]
        omega
      simp_arith [sPutD, PL.keyOf, if_pos hbig, hpy, sWhile]
      have hM0 : MetAt n ms ps l y 0 [(y : Int)] := ⟨by
        rw [List.nodup_append]
        exact ⟨hP.nd, by simp, fun a ha b hb e => hk2 (by rw [← List.mem_singleton.mp hb, ← e]; exact ha)⟩, List.mem_singleton.mpr rfl, fun p hp => by rw [List.mem_singleton.mp hp]; exact .refl, Nat.zero_le _, fun j hj => absurd hj (by omega)⟩
      have hmet : ∀ {met : List Int} {a : Nat}, MetAt n ms ps l y a met → (l ++ met).length ≤ n.toNat := fun h => Nat.le_trans (List.Nodup.length_le_of_subset h.nd fun p hp => by
        rcases List.mem_append.mp hp with hp | hp
        · exact hP.inside hp
        · exact (h.rch p hp).mem (adj_mem n ms ps) ho) (outs_len n ps)
      refine W.step (W.while (fun k ρ m => ∃ (a : Nat) (met : List Int) (x7 x8 : Option E), k = n.toNat - a ∧ MetAt n ms ps l y a met ∧ m = o :: .dic (leftK (ps ++ (l ++ met))) :: (r ++ [.lst (met.map D.int)]) ∧ ρ = [some (.d (webD n ms)), some (.d (planD ps)), some (.own 1), some (.d (.int num)), some (.d (.int (y : Int))), some (.own (r.length + 1 + 1)), some (.d (.int (a : Int))), x7, x8, none]) (fun ρ m => ∃ (a : Nat) (met : List Int) (x7 x8 : Option E), a = met.length ∧ MetAt n ms ps l y a met ∧ m = o :: .dic (leftK (ps ++ (l ++ met))) :: (r ++ [.lst (met.map D.int)]) ∧ ρ = [some (.d (webD n ms)), some (.d (planD ps)), some (.own 1), some (.d (.int num)), some (.d (.int (y : Int))), some (.own (r.length + 1 + 1)), some (.d (.int (a : Int))), x7, x8, none]) ?_ wN (n.toNat - 0) _ _ (by rw [wN_big]; omega) ⟨0, [(y : Int)], _, _, rfl, hM0, rfl, rfl⟩) ?_
      · rintro k ρ m ⟨a, met, x7, x8, rfl, hM, rfl, rfl⟩
        simp_arith [snoc_get]
        refine ⟨fun ha => ?_, fun ha => ⟨a, met, _, _, ?_, hM, rfl, rfl⟩⟩
        · have ha := of_decide_eq_true ha
          have ha : a < met.length := by omega
          simp_arith [snoc_get, opIx_li met a (by omega) (by omega)]
          generalize hv : met.getD a 0 = v
          have hvm : v ∈ met := by rw [← hv]; exact getD_mem ha
          have hvr := hM.rch v hvm
          have hvo := hvr.mem (adj_mem n ms ps) ho
          have hnl := hmet hM
          rw [List.length_append] at hnl
          rw [meetings_of_eq n ms v _ (by omega)]
          simp_arith
          refine W.loop (fun j ρ m => ∃ (ext : List Int) (x7 x8 : Option E), MetAt n ms ps l y a (met ++ ext) ∧ (∀ z ∈ (meets ms v).take j, oth ms z v ∈ ps ++ (l ++ (met ++ ext))) ∧ m = o :: .dic (leftK (ps ++ (l ++ (met ++ ext)))) :: (r ++ [.lst ((met ++ ext).map D.int)]) ∧ ρ = [some (.d (webD n ms)), some (.d (planD ps)), some (.own 1), some (.d (.int num)), some (.d (.int (y : Int))), some (.own (r.length + 1 + 1)), some (.d (.int (a : Int))), x7, x8, none]) ?_ ?_ ?_
          · exact ⟨[], _, _, by rw [List.append_nil]; exact hM, fun z hz => by simp at hz, by rw [List.append_nil], rfl⟩
          · rintro j z hz ρ m ⟨ext, x7, x8, hM2, hpre, rfl, rfl⟩
            have hzm := List.mem_of_getElem? hz
            obtain ⟨z0, z1, _⟩ := meets_mem hzm
            obtain ⟨⟨o0, o1⟩, hpr, hprm⟩ := oth_range hg hzm
            have ea : (met ++ ext).getD a 0 = v := by rw [getD_append_left _ _ _ ha, hv]
            refine ⟨_, rfl, ?_⟩
            simp_arith [snoc_get, opIx_li (met ++ ext) a (by omega) (by rw [List.length_append]; omega), ea]
            rw [other_of_eq n ms z v _ z0 z1, show (if v = (pr ms z.toNat).1 then (pr ms z.toNat).2 else (pr ms z.toNat).1) = oth ms z v from rfl]
            simp_arith [eNotInD, dget_int, valD_left]
            by_cases hko : oth ms z v ∈ ps ++ (l ++ (met ++ ext))
            · rw [decide_eq_true hko]
              simp_arith
              refine ⟨goes_nx, ext, _, _, hM2, fun w hw => ?_, rfl, rfl⟩
              exact (take_all (P := fun w => oth ms w v ∈ ps ++ (l ++ (met ++ ext))) hz).mpr ⟨hpre, hko⟩ w hw
            · rw [decide_eq_false hko]
              have hoo : oth ms z v ∈ outs n ps := mem_outs.mpr ⟨⟨o0, o1⟩, fun w => hko (List.mem_append_left _ w)⟩
              have hadj : Adj n ms ps v (oth ms z v) := ⟨⟨hvo, hoo⟩, _, hprm, hpr⟩
              have hpo : putD (leftK (ps ++ (l ++ (met ++ ext)))) (.inl (oth ms z v)) (.bl true) = leftK (ps ++ (l ++ (met ++ (ext ++ [oth ms z v])))) := by
                rw [putD_left hko, List.append_assoc, List.append_assoc, List.append_assoc]
              have hnl2 := hmet hM2
              rw [List.length_append] at hnl2
              have hbig2 : (leftK (ps ++ (l ++ (met ++ ext)))).length < big := by
                unfold leftK big
                rw [List.length_map, List.length_append, List.length_append]
                omega
              have hbig3 : ((met ++ ext).map D.int).length < big := by
                unfold big
                rw [List.length_map]
                omega
              simp_arith [sPutD, PL.keyOf, if_pos hbig2, hpo, snoc_get, snoc_set]
              rw [if_pos (by have hb := hbig3; rw [List.length_map, List.length_append] at hb; exact hb)]
              simp_arith [snoc_set]
              refine ⟨goes_nx, ext ++ [oth ms z v], _, _, ⟨?_, ?_, fun p hp => ?_, ?_, fun j' hj' q hq => ?_⟩, fun w hw => ?_, by simp, rfl⟩
              · rw [← List.append_assoc met, ← List.append_assoc l, List.nodup_append]
                exact ⟨hM2.nd, by simp, fun p hp q hq e => hko (List.mem_append_right _ (by rw [← List.mem_singleton.mp hq, ← e]; exact hp))⟩
              · rw [← List.append_assoc]; exact List.mem_append_left _ hM2.has
              · rw [← List.append_assoc] at hp
                rcases List.mem_append.mp hp with hp | hp
                · exact hM2.rch p hp
                · rw [List.mem_singleton.mp hp]; exact hvr.tail hadj
              · rw [← List.append_assoc, List.length_append]; have := hM2.le; omega
              · rw [← List.append_assoc, getD_append_left _ _ _ (by have := hM2.le; omega)] at hq
                rw [← List.append_assoc]
                exact List.mem_append_left _ (hM2.shut j' hj' q hq)
              · refine (take_all (P := fun w => oth ms w v ∈ ps ++ (l ++ (met ++ (ext ++ [oth ms z v])))) hz).mpr ⟨fun w hw => ?_, ?_⟩ w hw
                · rcases List.mem_append.mp (hpre w hw) with h | h
                  · exact List.mem_append_left _ h
                  · refine List.mem_append_right _ ?_
                    rw [← List.append_assoc met, ← List.append_assoc l]
                    exact List.mem_append_left _ h
                · refine List.mem_append_right _ (List.mem_append_right _ (List.mem_append_right _ (List.mem_append_right _ ?_)))
                  exact List.mem_singleton.mpr rfl
          · rintro ρ m ⟨ext, x7, x8, hM2, hall, rfl, rfl⟩
            rw [List.take_length] at hall
            simp_arith
            refine .inl ⟨goes_nx, n.toNat - (a + 1), by omega, a + 1, met ++ ext, _, _, rfl, ⟨hM2.nd, hM2.has, hM2.rch, by rw [List.length_append]; omega, fun j hj q hq => ?_⟩, rfl, rfl⟩
            by_cases e : j = a
            · subst e
              rw [getD_append_left _ _ _ ha, hv] at hq
              obtain ⟨z, hz, ez⟩ := oth_adj hg hq
              have := hall z hz
              rw [ez] at this
              rcases List.mem_append.mp this with h | h
              · exact absurd h (mem_outs.mp hq.1.2).2
              · rcases List.mem_append.mp h with h | h
                · obtain ⟨s, hs, hso, hsr⟩ := (hP.mem q).mp h
                  exact absurd ((hP.mem _).mpr ⟨s, hs, hso, (hsr.tail (adj_symm n ms ps _ _ hq)).trans (hvr.symm (adj_symm n ms ps))⟩) hk2
                · exact h
            · exact hM2.shut j (by omega) q hq
        · have ha := of_decide_eq_false ha
          have := hM.le
          omega
      · rintro ⟨fl, ρ, m⟩ ⟨rfl, a, met, x7, x8, rfl, hM, rfl, rfl⟩
        simp_arith [snoc_get]
        refine W.pos (by decide) ?_
        simp_arith
        refine ⟨goes_nx, l ++ met, _, _, _, _, _, _, _, hP.next ho hk2 hM.nd fun p => ⟨hM.rch p, fun hr => ?_⟩, rfl, rfl⟩
        induction hr with
        | refl => exact hM.has
        | tail _ adj ih =>
          obtain ⟨j, hj, e⟩ := List.getElem_of_mem ih
          refine hM.shut j hj _ ?_
          rw [List.getD_eq_getElem?_getD, List.getElem?_eq_getElem hj, e]
          exact adj
  · rintro ρ m ⟨l, num, r, x4, x5, x6, x7, x8, hP, rfl, rfl⟩
    rw [List.length_range] at hP
    simp_arith
    rw [hP.num, oddN_range]
end Lw
namespace Lw
open PySem PySem.Spec L2 PL
set_option autoImplicit false
local macro_rules | `(tactic| simp_arith [$ls,*]) => `(tactic| try simp (maxSteps := 2000000) only [eV, eC, eBin, g2, eUn, eBi, eCall, aNil, aCons, sSeq, sRet, sIf, sSet, sAsg, sExp, tgName, tgTup_pair, sNil, eIf, tAndM, tOrM, tNotM, eAnd, eOr, eNot, tTrue, sFor, iRange1_bind, iSeq, eSl, oNone, oSome, opNeg_i, opSl_l, opSl_t, tOf_eq, look_d, frzE_d, frzAll, eLst, eTup, eLstO, eApp, sPutL, cellL, look, frzE, gIx_d, gIx_own, gIx_deal, dealAt, intOf, opAdd_i, opI_i, opEqA_i, opNeA_i, opEqA_b, opLen_l, opLen_t, opLen_s, opLen_d, itemsOf_l, itemsOf_t, opTuple_l, opTuple_t, opList_l, opList_t, opIx_web0, opIx_web1, opIx_ck, opIn_pair, opNotIn_pair, wipeE, fin, ck, 
  Option.bind_some, Option.bind_none, Option.bind_assoc, W_some, List.map_cons, List.map_nil, List.replicate, List.cons_append, List.nil_append, List.getElem?_cons_zero, List.getElem?_cons_succ, List.set_cons_zero, List.set_cons_succ, List.length_cons, List.length_nil, List.take_succ_cons, List.take_zero, List.take_nil, List.take_length, List.length_append, Nat.zero_add, Nat.lt_irrefl, Option.map_some, List.length_map, Int.toNat_natCast, if_true, if_false, Bool.false_eq_true, Bool.not_true, Bool.not_false, decide_true, decide_false, reduceCtorEq, lb0, lb1, lb2, lb3, lb4, lb5, lb6, lb7, lb8, lb9, lb10, lb11, lb12, lb13, lb14, lb15, lb16, lb17, $ls,*])
local macro_rules | `(tactic| simp_arith) => `(tactic| simp_arith [Option.bind_some])
theorem putD_same {κ : Type} [DecidableEq κ] (kvs : List (κ × D)) (k : κ) (v : D) (h : (valD kvs k).isSome = true) : (putD kvs k v).length = kvs.length := by
  unfold putD
  rw [if_pos, List.length_map]
  unfold valD at h
  rw [Option.isSome_map] at h
  obtain ⟨y, hy⟩ := Option.isSome_iff_exists.mp h
  exact List.any_eq_true.mpr ⟨y, List.mem_of_find?_eq_some hy, @List.find?_some _ (fun kv : κ × D => decide (kv.1 = k)) _ _ hy⟩
def MD (S : List Int) (mk : Int → Int) (d : List (Key × D)) : Prop := ∀ k : Int, valD d (.inl k) = if k ∈ S then some (.int (mk k)) else none
theorem MD.put {S : List Int} {mk : Int → Int} {d : List (Key × D)} (h : MD S mk d) (a v : Int) : MD (S ++ [a]) (fun q => if q = a then v else mk q) (putD d (.inl a) (.int v)) := fun k => by
  rw [valD_put]
  by_cases e : k = a
  · rw [e, if_pos rfl, if_pos (by simp)]
    show _ = some (D.int (if a = a then v else mk a))
    rw [if_pos rfl]
  · rw [if_neg fun z => e (Sum.inl.inj z), h k]
    show _ = if k ∈ S ++ [a] then some (D.int (if k = a then v else mk k)) else none
    rw [if_neg e]
    by_cases q : k ∈ S
    · rw [if_pos q, if_pos (List.mem_append_left _ q)]
    · rw [if_neg q, if_neg fun z => (List.mem_append.mp z).elim q fun z => e (List.mem_singleton.mp z)]
theorem MD.over {S : List Int} {mk : Int → Int} {d : List (Key × D)} (h : MD S mk d) {a : Int} (ha : a ∈ S) (v : Int) : MD S (fun q => if q = a then v else mk q) (putD d (.inl a) (.int v)) := fun k => by
  rw [h.put a v k]
  by_cases q : k ∈ S
  · rw [if_pos q, if_pos (List.mem_append_left _ q)]
  · rw [if_neg q, if_neg fun z => (List.mem_append.mp z).elim q fun z => q (by rw [List.mem_singleton.mp z]; exact ha)]
def minI2 (a b : Int) : Int := if b < a then b else a
theorem minI2_le (a b : Int) : minI2 a b ≤ a ∧ minI2 a b ≤ b ∧ (minI2 a b = a ∨ minI2 a b = b) := by
  unfold minI2
  split <;> omega
/-- within a round: from mk0 to mk, j edges done -/
structure Going (A : Int → Int → Prop) (S : List Int) (ms : Ms) (mk0 mk : Int → Int) (j : Nat) : Prop where
  sound : ∀ q ∈ S, Rch A q (mk q)
  down : ∀ q, mk q ≤ mk0 q
  done : ∀ x ∈ ms.take j, x.1 ∈ S → x.2 ∈ S → mk x.2 ≤ mk0 x.1 ∧ mk x.1 ≤ mk0 x.2
theorem law_odd_spec {n : Int} {ms : Ms} {ps : List Int} {o : O} (hl : ms.length ≤ 100) (hn : 0 ≤ n) (hn1 : n ≤ 100) (hg : Good n ms) (hpl : ps.length ≤ 100) : m__law_odd [.d (webD n ms), .d (planD ps)] [o] = some (.d (.int (oddN (Adj n ms ps) (outs n ps) : Nat)), [o]) := by
  refine W.toEq ?_
  have hol := outs_len n ps
  have hA := adj_mem n ms ps
  have hsy := adj_symm n ms ps
  unfold m__law_odd
  rw [fnD_eq 2 10 b__law_odd _ _ rfl]
  unfold b__law_odd
  simp_arith
  rw [eLc_map (ys := List.range n.toNat) (k := fun (i : Nat) => D.int (i : Int)) (fun (p : Nat) => !decide ((p : Int) ∈ ps)) (fun (p : Nat) => .int (p : Int)) (rng (n := n.toNat) (by simp_arith; rw [Int.toNat_of_nonneg hn]) (by omega)) (by simp; omega)]
  · rw [show (((List.range n.toNat).filter fun (p : Nat) => !decide ((p : Int) ∈ ps)).map fun (p : Nat) => D.int (p : Int)) = (outs n ps).map D.int by unfold outs; rw [List.map_map]; rfl]
    simp_arith [eDicO]
    generalize hS : outs n ps = S at *
    refine W.loop (fun i ρ m => ∃ (d : List (Key × D)) (x2 : Option E), MD (S.take i) (fun q => q) d ∧ d.length ≤ i ∧ m = [o, .dic d] ∧ ρ = [some (.d (webD n ms)), some (.d (planD ps)), x2, some (.d (.lst (S.map .int))), some (.own 1), none, none, none, none, none, none, none]) ?_ ?_ ?_
    · refine ⟨[], _, fun k => ?_, Nat.le_refl _, rfl, rfl⟩
      rw [List.take_zero, if_neg (by simp)]
      rfl
    · rintro i y hy ρ m ⟨d, x2, hd, hdl, rfl, rfl⟩
      have hi := (List.getElem?_eq_some_iff.mp hy).1
      refine ⟨_, rfl, ?_⟩
      have hb : d.length < big := by unfold big; omega
      simp_arith [sPutD, PL.keyOf, if_pos hb]
      refine ⟨goes_nx, _, _, ?_, ?_, rfl, rfl⟩
      · have := hd.put y y
        rw [show (fun q : Int => if q = y then y else q) = fun q => q from funext fun q => by
          by_cases e : q = y
          · rw [if_pos e, e]
          · rw [if_neg e]] at this
        rw [List.take_succ, hy]
        exact this
      · have := putD_len d (.inl y) (.int y)
        omega
    · rintro ρ m ⟨d, x2, hd, hdl, rfl, rfl⟩
      rw [List.take_length] at hd
      simp_arith
      refine W.rg ⟨by omega, by omega⟩ ?_
      simp_arith
      refine W.loop (fun t ρ m => ∃ (d : List (Key × D)) (mk : Int → Int) (x2 x5 x6 x7 x8 : Option E), MD S mk d ∧ d.length ≤ S.length ∧ ((∀ q ∈ S, Rch (Adj n ms ps) q (mk q)) ∧ ∀ p q, near (Adj n ms ps) t p q → mk q ≤ p) ∧ m = [o, .dic d] ∧ ρ = [some (.d (webD n ms)), some (.d (planD ps)), x2, some (.d (.lst (S.map .int))), some (.own 1), x5, x6, x7, x8, none, none, none]) ?_ ?_ ?_
      · exact ⟨d, fun q => q, _, _, _, _, _, hd, hdl, ⟨fun q _ => .refl, (Marks.start _).low⟩, rfl, rfl⟩
      · rintro t y hy ρ m ⟨d, mk0, x2, x5, x6, x7, x8, hd, hdl, ⟨hs0, hlow⟩, rfl, rfl⟩
        refine ⟨_, rfl, ?_⟩
        simp_arith
        refine W.bnd (W.loop (ys := ms) (k := pairD) (fun j ρ m => ∃ (d : List (Key × D)) (mk : Int → Int) (x6 x7 x8 : Option E), MD S mk d ∧ d.length ≤ S.length ∧ Going (Adj n ms ps) S ms mk0 mk j ∧ m = [o, .dic d] ∧ ρ = [some (.d (webD n ms)), some (.d (planD ps)), x2, some (.d (.lst (S.map .int))), some (.own 1), some (.d (.int (y : Int))), x6, x7, x8, none, none, none]) ⟨d, mk0, _, _, _, hd, hdl, ⟨hs0, fun q => Int.le_refl _, fun x hx => by simp at hx⟩, rfl, rfl⟩ ?_ ?_)
        · rintro j x hx ρ m ⟨d, mk, x6, x7, x8, hd, hdl, hG, rfl, rfl⟩
          have hxm := List.mem_of_getElem? hx
          have hxg := hg x hxm
          refine ⟨_, rfl, ?_⟩
          have ha := hd x.1
          have hb := hd x.2
          have stay : ¬ (x.1 ∈ S ∧ x.2 ∈ S) → Going (Adj n ms ps) S ms mk0 mk (j + 1) := fun hn => ⟨hG.sound, hG.down, fun w hw h1 h2 => by
            rw [List.take_succ, hx] at hw
            rcases List.mem_append.mp hw with hw | hw
            · exact hG.done w hw h1 h2
            · have hw : w = x := List.mem_singleton.mp hw
              subst hw
              exact absurd ⟨h1, h2⟩ hn⟩
          simp_arith [eInD, dget_int]
          by_cases qa : x.1 ∈ S
          · rw [if_pos qa] at ha
            rw [ha]
            simp_arith [Option.isSome]
            by_cases qb : x.2 ∈ S
            · rw [if_pos qb] at hb
              rw [hb]
              simp_arith [Option.isSome, eGetD, dget_int, ha, hb]
              rw [show (if mk x.2 < mk x.1 then mk x.2 else mk x.1) = minI2 (mk x.1) (mk x.2) from rfl]
              obtain ⟨l1, l2, l3⟩ := minI2_le (mk x.1) (mk x.2)
              generalize minI2 (mk x.1) (mk x.2) = v at *
              have hdb : d.length < big := by unfold big; omega
              have e1 := putD_same d (.inl x.1) (.int v) (by rw [ha]; rfl)
              have h1 := hd.over qa v
              have e2 := putD_same (putD d (.inl x.1) (.int v)) (.inl x.2) (.int v) (by rw [h1 x.2, if_pos qb]; rfl)
              have h2 := h1.over qb v
              have hdb2 : (putD d (.inl x.1) (.int v)).length < big := by rw [e1]; exact hdb
              simp_arith [sPutD, PL.keyOf, if_pos hdb, if_pos hdb2]
              have hadj : Adj n ms ps x.1 x.2 := ⟨⟨by rw [hS]; exact qa, by rw [hS]; exact qb⟩, x, hxm, .inl rfl⟩
              have r1 : Rch (Adj n ms ps) x.1 v := by
                rcases l3 with l3 | l3
                · rw [l3]; exact hG.sound x.1 qa
                · rw [l3]; exact .head hadj (hG.sound x.2 qb)
              refine ⟨goes_nx, _, _, _, _, _, h2, by rw [e2, e1]; exact hdl, ⟨fun q hq => ?_, fun q => ?_, fun w hw h1' h2' => ?_⟩, rfl, rfl⟩
              · show Rch _ q (if q = x.2 then v else if q = x.1 then v else mk q)
                by_cases c2 : q = x.2
                · rw [if_pos c2, c2]; exact .head (hsy _ _ hadj) r1
                · rw [if_neg c2]
                  by_cases c1 : q = x.1
                  · rw [if_pos c1, c1]; exact r1
                  · rw [if_neg c1]; exact hG.sound q hq
              · show (if q = x.2 then v else if q = x.1 then v else mk q) ≤ mk0 q
                have := hG.down q
                by_cases c2 : q = x.2
                · rw [if_pos c2]; rw [c2] at this ⊢; omega
                · rw [if_neg c2]
                  by_cases c1 : q = x.1
                  · rw [if_pos c1]; rw [c1] at this ⊢; omega
                  · rw [if_neg c1]; exact this
              · have dn : ∀ q, (if q = x.2 then v else if q = x.1 then v else mk q) ≤ mk q := fun q => by
                  by_cases c2 : q = x.2
                  · rw [if_pos c2, c2]; exact l2
                  · rw [if_neg c2]
                    by_cases c1 : q = x.1
                    · rw [if_pos c1, c1]; exact l1
                    · rw [if_neg c1]; exact Int.le_refl _
                rw [List.take_succ, hx] at hw
                rcases List.mem_append.mp hw with hw | hw
                · obtain ⟨d1, d2⟩ := hG.done w hw h1' h2'
                  exact ⟨Int.le_trans (dn w.2) d1, Int.le_trans (dn w.1) d2⟩
                · have hw : w = x := List.mem_singleton.mp hw
                  subst hw
                  have g1 := hG.down w.1
                  have g2 := hG.down w.2
                  refine ⟨?_, ?_⟩
                  · show (if w.2 = w.2 then v else _) ≤ _
                    rw [if_pos rfl]; omega
                  · show (if w.1 = w.2 then v else if w.1 = w.1 then v else mk w.1) ≤ _
                    rw [if_neg (by omega), if_pos rfl]; omega
            · rw [if_neg qb] at hb
              rw [hb]
              simp_arith [Option.isSome]
              exact ⟨goes_nx, d, mk, _, _, _, hd, hdl, stay fun z => qb z.2, rfl, rfl⟩
          · rw [if_neg qa] at ha
            rw [ha]
            simp_arith [Option.isSome]
            exact ⟨goes_nx, d, mk, _, _, _, hd, hdl, stay fun z => qa z.1, rfl, rfl⟩
        · rintro ρ m ⟨d, mk, x6, x7, x8, hd, hdl, hG, rfl, rfl⟩
          simp_arith
          refine ⟨goes_nx, d, mk, _, _, _, _, _, hd, hdl, ⟨hG.sound, fun p q hpq => ?_⟩, rfl, rfl⟩
          rcases hpq with hpq | ⟨r, hpr, hrq⟩
          · exact Int.le_trans (hG.down q) (hlow p q hpq)
          · obtain ⟨⟨hr, hq⟩, x, hx, e⟩ := hrq
            have := hG.done x (by rw [List.take_length]; exact hx)
            rw [hS] at hr hq
            rcases e with rfl | rfl
            · exact Int.le_trans (this hr hq).1 (hlow p r hpr)
            · exact Int.le_trans (this hq hr).2 (hlow p r hpr)
      · rintro ρ m ⟨d, mk, x2, x5, x6, x7, x8, hd, hdl, ⟨hs0, hlow⟩, rfl, rfl⟩
        rw [List.length_range] at hlow
        simp_arith
        rw [eLc_all (ys := S) (k := D.int) (fun mark => .int ((S.filter fun q => decide (mk q = mark)).length : Int)) (lst_items rfl) (by omega)]
        · rw [show S.map (fun mark => D.int ((S.filter fun q => decide (mk q = mark)).length : Int)) = (S.map fun mark => ((S.filter fun q => decide (mk q = mark)).length : Int)).map D.int by rw [List.map_map]; rfl]
          simp_arith
          rw [eLc_map (ys := S.map fun mark => ((S.filter fun q => decide (mk q = mark)).length : Int)) (k := D.int) (fun z => decide (z % 2 = 1)) (fun _ => .int 1) (lst_items rfl) (by rw [List.length_map]; omega)]
          · simp_arith
            rw [List.filter_map, List.length_map]
            unfold oddN
            refine congrArg (fun l : List Int => (E.d (D.int (l.length : Int)), [o])) (List.filter_congr fun p hp => ?_)
            have := marks_odd (L := S) (mk := mk) hsy hA (fun p hp => ⟨hs0 p hp, fun q hr => hlow q p (rch_near (L := S) hA (hr.mem (L := S) hA hp) (hr.symm hsy))⟩) hp
            rw [← this]
            refine decide_eq_decide.mpr ?_
            show (((S.filter fun q => decide (mk q = p)).length : Int) % 2 = 1) ↔ _
            omega
          · intro z hz
            refine ⟨_, rfl, ?_, fun _ => by simp_arith⟩
            simp_arith
            rw [if_pos (by decide)]
            simp_arith
        · intro mark hm
          refine ⟨_, rfl, ?_⟩
          simp_arith
          rw [eLc_map (ys := S) (k := D.int) (fun q => decide (mk q = mark)) (fun _ => .int 1) (lst_items rfl) (by omega)]
          · simp_arith
          · intro q hq
            have := hd q
            rw [if_pos hq] at this
            exact ⟨_, rfl, by simp_arith [eGetD, dget_int, this], fun _ => by simp_arith⟩
  · intro p hp
    exact ⟨_, rfl, by simp_arith [opNotIn_p], fun _ => by simp_arith⟩
end Lw
namespace Lw
open PySem PySem.Spec L2 PL
set_option autoImplicit false
local macro_rules | `(tactic| simp_arith [$ls,*]) => `(tactic| try simp (maxSteps := 2000000) only [eV, eC, eBin, g2, eUn, eBi, eCall, aNil, aCons, sSeq, sRet, sIf, sSet, sAsg, sExp, tgName, tgTup_pair, sNil, eIf, tAndM, tOrM, tNotM, eAnd, eOr, eNot, tTrue, sFor, iRange1_bind, iSeq, eSl, oNone, oSome, opNeg_i, opSl_l, opSl_t, tOf_eq, look_d, frzE_d, frzAll, eLst, eTup, eLstO, eApp, sPutL, cellL, look, frzE, gIx_d, gIx_own, gIx_deal, dealAt, intOf, opAdd_i, opI_i, opEqA_i, opNeA_i, opEqA_b, opLen_l, opLen_t, opLen_s, opLen_d, itemsOf_l, itemsOf_t, opTuple_l, opTuple_t, opList_l, opList_t, opIx_web0, opIx_web1, opIx_ck, opIn_pair, opNotIn_pair, wipeE, fin, ck, 
  Option.bind_some, Option.bind_none, Option.bind_assoc, W_some, List.map_cons, List.map_nil, List.replicate, List.cons_append, List.nil_append, List.getElem?_cons_zero, List.getElem?_cons_succ, List.set_cons_zero, List.set_cons_succ, List.length_cons, List.length_nil, List.take_succ_cons, List.take_zero, List.take_nil, List.take_length, List.length_append, Nat.zero_add, Nat.lt_irrefl, Option.map_some, List.length_map, Int.toNat_natCast, if_true, if_false, Bool.false_eq_true, Bool.not_true, Bool.not_false, decide_true, decide_false, reduceCtorEq, lb0, lb1, lb2, lb3, lb4, lb5, lb6, lb7, lb8, lb9, lb10, lb11, lb12, lb13, lb14, lb15, lb16, lb17, $ls,*])
local macro_rules | `(tactic| simp_arith) => `(tactic| simp_arith [Option.bind_some])
noncomputable def barOf (n : Int) (ms : Ms) (ps : List Int) : Int := (n + ps.length - (oddN (Adj n ms ps) (outs n ps) : Nat)) / 2
theorem shows_bar_eq {n : Int} {ms : Ms} {ps : List Int} {k : Int} {o : O} (hl : ms.length ≤ 100) (hn : 0 ≤ n) (hn1 : n ≤ 100) (hg : Good n ms) (hpl : ps.length ≤ 100) : m_shows_bar [.d (webD n ms), .d (.int k), .d (planD ps)] [o] = some (.d (.bl (tr (Sorted n ps ∧ barOf n ms ps ≤ k))), [o]) := by
  refine W.toEq ?_
  unfold m_shows_bar
  rw [fnD_eq 3 0 b_shows_bar _ _ rfl]
  unfold b_shows_bar
  simp_arith [are_people_eq n ms ps [o] (by omega)]
  by_cases hs : Sorted n ps
  · rw [tr_true hs]
    simp_arith [opLen_p, odd_parts_spec (o := o) hl hn hn1 hg hs hpl]
    refine W.pos (by decide) ?_
    simp_arith
    rw [show (n + (ps.length : Int) - ((oddN (Adj n ms ps) (outs n ps) : Nat) : Int)) / 2 = barOf n ms ps from rfl, decide_tr, tr_congr (q := Sorted n ps ∧ barOf n ms ps ≤ k) ⟨fun z => ⟨hs, z⟩, fun z => z.2⟩]
  · rw [tr_false hs, tr_false fun z => hs z.1]
    simp_arith
theorem law_rows_spec {n : Int} {ms : Ms} {m : Store} (hn : 0 ≤ n) (hn1 : n ≤ 12) : W (m__law_rows [.d (webD n ms)] m) fun p => ∃ rows : List (List Int), (∀ r ∈ rows, r.length ≤ n.toNat) ∧ 1 ≤ rows.length ∧ rows.length ≤ 4096 ∧ p = (.d (.lst (rows.map planD)), m) := by
  unfold m__law_rows
  rw [fnD_eq 1 3 b__law_rows _ _ rfl]
  unfold b__law_rows
  simp_arith
  refine W.rg ⟨by omega, by omega⟩ ?_
  simp_arith
  refine W.loop (fun i ρ m2 => ∃ (rows : List (List Int)) (x2 : Option E), m2 = m ∧ (∀ r ∈ rows, r.length ≤ i) ∧ rows.length = 2 ^ i ∧ ρ = [some (.d (webD n ms)), some (.d (.lst (rows.map planD))), x2, none]) ⟨[[]], _, rfl, fun r hr => by rw [List.mem_singleton.mp hr]; exact Nat.le_refl _, rfl, rfl⟩ ?_ ?_
  · rintro i y hy ρ m2 ⟨rows, x2, rfl, hr, hrl, rfl⟩
    obtain ⟨hi, rfl⟩ := getElem?_range hy
    have hp : 2 ^ y ≤ 2 ^ 12 := Nat.pow_le_pow_right (by decide) (by omega)
    have hp : 2 ^ y ≤ 4096 := hp
    refine ⟨_, rfl, ?_⟩
    simp_arith
    rw [eLc_all (ys := rows) (k := planD) (fun r => planD (r ++ [(y : Int)])) (lst_items rfl) (by omega)]
    · rw [show rows.map (fun r => planD (r ++ [(y : Int)])) = (rows.map fun r => r ++ [(y : Int)]).map planD by rw [List.map_map]; rfl]
      simp_arith
      rw [opAdd_ll _ _ (by rw [List.length_map, List.length_map, List.length_map]; omega), ← List.map_append]
      simp_arith
      refine ⟨goes_nx, _, _, by trivial, fun r hr2 => ?_, ?_, rfl⟩
      · rcases List.mem_append.mp hr2 with h | h
        · have := hr r h; omega
        · obtain ⟨r0, h0, rfl⟩ := List.mem_map.mp h
          have := hr r0 h0
          simp
          omega
      · rw [List.length_append, List.length_map, hrl, Nat.pow_succ]; omega
    · intro r hr2
      have := hr r hr2
      refine ⟨_, rfl, ?_⟩
      simp_arith [one_p, opAdd_pp r [(y : Int)] (by simp; omega)]
  · rintro ρ m2 ⟨rows, x2, rfl, hr, hrl, rfl⟩
    rw [List.length_range] at hr hrl
    simp_arith
    have hp : 2 ^ n.toNat ≤ 2 ^ 12 := Nat.pow_le_pow_right (by decide) (by omega)
    have hp : 2 ^ n.toNat ≤ 4096 := hp
    have hp1 : 1 ≤ 2 ^ n.toNat := Nat.one_le_two_pow
    exact ⟨rows, hr, by omega, by omega, rfl⟩
theorem opIx_plans (xs : List (List Int)) (i : Int) (h0 : 0 ≤ i) (h : i < xs.length) : opIx (.lst (xs.map planD)) (.int i) = some (planD (xs.getD i.toNat [])) := atI_map' planD xs [] i h0 h
theorem law_people_spec {row : List Int} {t c n : Int} {ms : Ms} (h0 : 0 ≤ c) (h1 : c ≤ 900000) (hl : ms.length ≤ 100) (hn : 0 ≤ n) (hn1 : n ≤ 12) (hg : Good n ms) : W (m__law_people [dl row t, .d (webD n ms)] [ck c]) fun p => ∃ c' : Int, c ≤ c' ∧ c' ≤ c + 100 ∧ p = (.d (.bl true), [ck c']) := by
  unfold m__law_people
  rw [fnD_eq 2 10 b__law_people _ _ rfl]
  unfold b__law_people
  simp_arith
  refine W.step (law_rows_spec hn hn1) ?_
  rintro _ ⟨rows, hrl, hr1, hr2, rfl⟩
  simp_arith
  refine W.rg ⟨by omega, by omega⟩ ?_
  simp_arith
  refine W.loop (fun i ρ m => ∃ (c' : Int) (x3 x4 x5 x6 x7 x8 x9 : Option E), c ≤ c' ∧ c' ≤ c + i ∧ m = [ck c'] ∧ ρ = [some (dl row t), some (.d (webD n ms)), some (.d (.lst (rows.map planD))), x3, x4, x5, x6, x7, x8, x9, none, none]) ⟨c, _, _, _, _, _, _, _, by omega, by omega, rfl, rfl⟩ ?_ ?_
  · rintro i y hy ρ m ⟨c', x3, x4, x5, x6, x7, x8, x9, hc0, hc1, rfl, rfl⟩
    obtain ⟨hi, rfl⟩ := getElem?_range hy
    have hi : y < 6 := hi
    refine ⟨_, rfl, ?_⟩
    simp_arith
    refine W.step (take_spec (by omega) (by omega) (by omega)) ?_
    rintro _ ⟨v, v0, v1, rfl⟩
    simp_arith [opIx_plans rows v v0 v1]
    have hrm : rows.getD v.toNat [] ∈ rows := getD_mem (by omega)
    generalize rows.getD v.toNat [] = r at hrm
    have hr := hrl r hrm
    have := cutD_len r none (some 1)
    have := cutD_len r (some 1) none
    simp_arith [opSl_p, opRev_p, one_p, opAdd_pp r (cutD r none (some 1)) (by omega), opAdd_pp r [n] (by simp; omega), opAdd_pp [-1] r (by simp; omega)]
    refine W.bnd (W.loopE planD [r, r ++ cutD r none (some 1), r.reverse, r ++ [n], [-1] ++ r, cutD r (some 1) none] (by rfl) (fun i ρ m => ∃ (x5 x6 x7 x8 x9 : Option E), m = [ck (c' + 1)] ∧ ρ = [some (dl row t), some (.d (webD n ms)), some (.d (.lst (rows.map planD))), some (.d (.int (y : Int))), some (.d (planD r)), x5, x6, x7, x8, x9, none, none]) ⟨_, _, _, _, _, rfl, rfl⟩ ?_ ?_)
    · rintro j ps hj ρ m ⟨x5, x6, x7, x8, x9, rfl, rfl⟩
      have hpl : ps.length ≤ 100 := by
        have := List.mem_of_getElem? hj
        simp only [List.mem_cons, List.not_mem_nil, or_false] at this
        rcases this with rfl | rfl | rfl | rfl | rfl | rfl <;> (try simp) <;> omega
      refine ⟨_, rfl, ?_⟩
      simp_arith [law_sorted_eq n ms ps [ck (c' + 1)] (by omega)]
      rw [eLc_map (ys := ms) (k := pairD) (fun q => decide (¬ q.1 ∈ ps ∧ ¬ q.2 ∈ ps)) (fun _ => .int 1) (ms_items rfl) (by omega)]
      · simp_arith
        rw [count_tr (P := Watched ms ps) ⟨fun z q hq => decide_eq_false (z q hq), fun z q hq => of_decide_eq_false (z q hq)⟩]
        simp_arith [shows_watch_eq n ms ps [ck (c' + 1)] (by omega) (by omega), law_bool_eq]
        have ew : (if tr (Sorted n ps) = true then some (E.d (.bl (tr (Watched ms ps))), [ck (c' + 1)]) else some (E.d (.bl false), [ck (c' + 1)])) = some (E.d (.bl (tr (Sorted n ps ∧ Watched ms ps))), [ck (c' + 1)]) := by
          by_cases hs : Sorted n ps
          · rw [tr_true hs, if_pos rfl, tr_congr (q := Sorted n ps ∧ Watched ms ps) ⟨fun z => ⟨hs, z⟩, fun z => z.2⟩]
          · rw [tr_false hs, if_neg Bool.false_ne_true, tr_false fun z => hs z.1]
        rw [ew]
        simp_arith [law_bool_eq]
        simp_arith [opLen_p, law_odd_spec (o := ck (c' + 1)) hl hn (by omega) hg hpl]
        refine W.pos (by decide) ?_
        simp_arith
        rw [show (n + (ps.length : Int) - ((oddN (Adj n ms ps) (outs n ps) : Nat) : Int)) / 2 = barOf n ms ps from rfl]
        refine W.bnd (W.loopE D.int [barOf n ms ps - 1, barOf n ms ps, barOf n ms ps + 1] (by rfl) (fun i ρ m => ∃ (x9 : Option E), m = [ck (c' + 1)] ∧ ρ = [some (dl row t), some (.d (webD n ms)), some (.d (.lst (rows.map planD))), some (.d (.int (y : Int))), some (.d (planD r)), some (.d (planD ps)), some (.d (.bl (tr (Sorted n ps)))), some (.d (.bl (tr (Watched ms ps)))), some (.d (.int (barOf n ms ps))), x9, none, none]) ⟨_, rfl, rfl⟩ ?_ ?_)
        · rintro k q hk ρ m ⟨x9, rfl, rfl⟩
          refine ⟨_, rfl, ?_⟩
          simp_arith [shows_bar_eq (k := q) (o := ck (c' + 1)) hl hn (by omega) hg hpl]
          have eb : (if tr (Sorted n ps) = true then some (E.d (.bl (decide (barOf n ms ps ≤ q))), [ck (c' + 1)]) else some (E.d (.bl false), [ck (c' + 1)])) = some (E.d (.bl (tr (Sorted n ps ∧ barOf n ms ps ≤ q))), [ck (c' + 1)]) := by
            by_cases hs : Sorted n ps
            · rw [tr_true hs, if_pos rfl, decide_tr, tr_congr (q := Sorted n ps ∧ barOf n ms ps ≤ q) ⟨fun z => ⟨hs, z⟩, fun z => z.2⟩]
            · rw [tr_false hs, if_neg Bool.false_ne_true, tr_false fun z => hs z.1]
          rw [eb]
          simp_arith [law_bool_eq]
          exact ⟨goes_nx, _, by trivial, rfl⟩
        · rintro ρ m ⟨x9, rfl, rfl⟩
          simp_arith
          exact ⟨goes_nx, _, _, _, _, _, by trivial, rfl⟩
      · intro q hq
        refine ⟨_, rfl, ?_, fun _ => by simp_arith⟩
        simp_arith [opNotIn_p]
        by_cases h1 : q.1 ∈ ps
        · simp_arith [decide_eq_true h1]
          simp [h1]
        · simp_arith [decide_eq_false h1, opNotIn_p]
          simp [h1]
    · rintro ρ m ⟨x5, x6, x7, x8, x9, rfl, rfl⟩
      simp_arith
      exact ⟨goes_nx, c' + 1, _, _, _, _, _, _, _, by omega, by omega, rfl, rfl⟩
  · rintro ρ m ⟨c', x3, x4, x5, x6, x7, x8, x9, hc0, hc1, rfl, rfl⟩
    have hc1 : c' ≤ c + 6 := by
      have := hc1
      simp at this
      omega
    simp_arith
    exact ⟨c', by omega, by omega, rfl⟩
end Lw
namespace Lw
open PySem PySem.Spec L2 PL
set_option autoImplicit false
local macro_rules | `(tactic| simp_arith [$ls,*]) => `(tactic| try simp (maxSteps := 2000000) only [eV, eC, eBin, g2, eUn, eBi, eCall, aNil, aCons, sSeq, sRet, sIf, sSet, sAsg, sExp, tgName, tgTup_pair, sNil, eIf, tAndM, tOrM, tNotM, eAnd, eOr, eNot, tTrue, sFor, iRange1_bind, iSeq, eSl, oNone, oSome, opNeg_i, opSl_l, opSl_t, tOf_eq, look_d, frzE_d, frzAll, eLst, eTup, eLstO, eApp, sPutL, cellL, look, frzE, gIx_d, gIx_own, gIx_deal, dealAt, intOf, opAdd_i, opI_i, opEqA_i, opNeA_i, opEqA_b, opLen_l, opLen_t, opLen_s, opLen_d, itemsOf_l, itemsOf_t, opTuple_l, opTuple_t, opList_l, opList_t, opIx_web0, opIx_web1, opIx_ck, opIn_pair, opNotIn_pair, wipeE, fin, ck, 
  Option.bind_some, Option.bind_none, Option.bind_assoc, W_some, List.map_cons, List.map_nil, List.replicate, List.cons_append, List.nil_append, List.getElem?_cons_zero, List.getElem?_cons_succ, List.set_cons_zero, List.set_cons_succ, List.length_cons, List.length_nil, List.take_succ_cons, List.take_zero, List.take_nil, List.take_length, List.length_append, Nat.zero_add, Nat.lt_irrefl, Option.map_some, List.length_map, Int.toNat_natCast, if_true, if_false, Bool.false_eq_true, Bool.not_true, Bool.not_false, decide_true, decide_false, reduceCtorEq, lb0, lb1, lb2, lb3, lb4, lb5, lb6, lb7, lb8, lb9, lb10, lb11, lb12, lb13, lb14, lb15, lb16, lb17, $ls,*])
local macro_rules | `(tactic| simp_arith) => `(tactic| simp_arith [Option.bind_some])
theorem atI_wrap {α β : Type} (f : α → β) (xs : List α) (d : α) (i : Int) (h0 : -(xs.length : Int) ≤ i) (h : i < xs.length) : atI (xs.map f) i = some (f (xs.getD (if i < 0 then i + xs.length else i).toNat d)) := by
  by_cases hi : i < 0
  · rw [if_pos hi]
    unfold atI ixN
    rw [if_neg (by omega), List.length_map, if_pos h0, Option.bind_some, List.getElem?_map, List.getElem?_eq_getElem (by omega), List.getD_eq_getElem?_getD, List.getElem?_eq_getElem (by omega)]
    rfl
  · rw [if_neg hi]
    exact atI_map' f xs d i (by omega) h
def wrapD (xs : List Int) (i : Int) : Int := xs.getD (if i < 0 then i + xs.length else i).toNat 0
theorem opIx_pw (xs : List Int) (i : Int) (h0 : -(xs.length : Int) ≤ i) (h : i < xs.length) : opIx (planD xs) (.int i) = some (.int (wrapD xs i)) := atI_wrap D.int xs 0 i h0 h
theorem opIx_lw (xs : List Int) (i : Int) (h0 : -(xs.length : Int) ≤ i) (h : i < xs.length) : opIx (.lst (xs.map .int)) (.int i) = some (.int (wrapD xs i)) := atI_wrap D.int xs 0 i h0 h
def insideN (ms : Ms) (ps : List Int) : Nat := (ms.filter fun q => decide (q.1 ∈ ps ∧ q.2 ∈ ps)).length
theorem in_bit (ps : List Int) (q : Int × Int) {m : Store} : (if decide (q.1 ∈ ps) = true then some (decide (q.2 ∈ ps), m) else some (false, m)) = some (decide (q.1 ∈ ps ∧ q.2 ∈ ps), m) := by
  by_cases h1 : q.1 ∈ ps <;> by_cases h2 : q.2 ∈ ps <;> simp [h1, h2]
theorem two_in_eq (n : Int) (ms : Ms) (ps : List Int) (m : Store) (hl : ms.length ≤ 1000) : m_two_in [.d (webD n ms), .d (planD ps)] m = some (.d (.int (insideN ms ps)), m) := by
  refine W.toEq ?_
  unfold m_two_in
  rw [fnD_eq 2 2 b_two_in _ m rfl]
  unfold b_two_in
  simp_arith
  rw [eLc_map (ys := ms) (k := pairD) (fun q => decide (q.1 ∈ ps ∧ q.2 ∈ ps)) (fun _ => .int 1) (ms_items rfl) (by omega)]
  · simp_arith
    rfl
  · intro q hq
    refine ⟨_, rfl, ?_, fun _ => by simp_arith⟩
    simp_arith [opIn_p, in_bit]
theorem law_inside_eq (n : Int) (ms : Ms) (ps : List Int) (m : Store) (hl : ms.length ≤ 1000) : m__law_inside [.d (webD n ms), .d (planD ps)] m = some (.d (.int (insideN ms ps)), m) := by
  refine W.toEq ?_
  unfold m__law_inside
  rw [fnD_eq 2 2 b__law_inside _ m rfl]
  unfold b__law_inside
  simp_arith
  rw [eLc_map (ys := ms) (k := pairD) (fun q => decide (q.1 ∈ ps ∧ q.2 ∈ ps)) (fun _ => .int 1) (ms_items rfl) (by omega)]
  · simp_arith
    rfl
  · intro q hq
    refine ⟨_, rfl, ?_, fun _ => by simp_arith⟩
    simp_arith [opIn_p, in_bit]
def Crowd (n : Int) (ms : Ms) (k : Int) (ps : List Int) : Prop := Sorted n ps ∧ (ps.length : Int) % 2 = 1 ∧ 2 < (ps.length : Int) ∧ k * ((ps.length : Int) / 2) < insideN ms ps
theorem shows_crowd_eq (n : Int) (ms : Ms) (k : Int) (ps : List Int) (m : Store) (hl : ms.length ≤ 1000) (hp : ps.length ≤ 1000) (hk0 : 0 ≤ k) (hk : k ≤ 1000) : m_shows_crowd [.d (webD n ms), .d (.int k), .d (planD ps)] m = some (.d (.bl (tr (Crowd n ms k ps))), m) := by
  refine W.toEq ?_
  unfold m_shows_crowd
  rw [fnD_eq 3 1 b_shows_crowd _ m rfl]
  unfold b_shows_crowd
  simp_arith [opLen_p]
  by_cases c1 : (ps.length : Int) < 3
  · rw [decide_eq_true c1]
    simp_arith
    rw [tr_false fun z => by have := z.2.2.1; omega]
  · rw [decide_eq_false c1]
    simp_arith [opLen_p]
    refine W.pos (by decide) ?_
    simp_arith
    by_cases c2 : (ps.length : Int) % 2 = 0
    · rw [decide_eq_true c2]
      simp_arith
      rw [tr_false fun z => by have := z.2.1; omega]
    · rw [decide_eq_false c2]
      simp_arith [opLen_p]
      refine W.rg ⟨by omega, by omega⟩ ?_
      simp_arith
      generalize hx : forL _ _ _ _ _ = x
      refine Or.elim (forL_srch (fun i : Nat => ¬ ((0 ≤ ps.getD i 0 ∧ ps.getD i 0 < n) ∧ (0 < i → ps.getD (i - 1) 0 < ps.getD i 0))) (fun ρ => ∃ x3, ρ = [some (.d (webD n ms)), some (.d (.int k)), some (.d (planD ps)), x3]) (.d (.bl false)) hx ⟨none, rfl⟩ ?_) (fun ⟨h1, ρ2, ⟨x2, e4⟩, h2⟩ => ?_) (fun ⟨h1, ρ2, h2⟩ => ?_)
      · intro i hi ρ hρ
        obtain ⟨x3, rfl⟩ := hρ
        have hi := List.mem_range.mp hi
        refine ⟨_, rfl, ?_⟩
        simp_arith [chain_le_lt (fa := eC (.int 0)) (fb := eBin gIx (eV 2) (eV 3)) (fc := eBin gIx (eV 0) (eC (.int 0))) (m := m) (a := 0) (b := ps.getD i 0) (c := n) (ρ := [some (.d (webD n ms)), some (.d (.int k)), some (.d (planD ps)), some (.d (.int (i : Int)))]) rfl (by simp_arith [opIx_p ps i (by omega) (by omega)]) rfl]
        by_cases c1 : 0 ≤ ps.getD i 0 ∧ ps.getD i 0 < n
        · rw [decide_eq_true c1]
          simp_arith
          by_cases c0 : (0 : Int) < (i : Int)
          · rw [decide_eq_true c0]
            have e : ((i : Int) - 1).toNat = i - 1 := by omega
            simp_arith [opIx_p ps i (by omega) (by omega), opIx_p ps ((i : Int) - 1) (by omega) (by omega), e]
            by_cases c2 : ps.getD (i - 1) 0 < ps.getD i 0
            · rw [decide_eq_true c2]
              exact .inr ⟨fun z => z ⟨c1, fun _ => c2⟩, _, ⟨_, rfl⟩, rfl⟩
            · rw [decide_eq_false c2]
              exact .inl ⟨fun z => c2 (z.2 (by omega)), _, rfl⟩
          · rw [decide_eq_false c0]
            exact .inr ⟨fun z => z ⟨c1, fun w => absurd w (by omega)⟩, _, ⟨_, rfl⟩, rfl⟩
        · rw [decide_eq_false c1]
          exact .inl ⟨fun z => c1 z.1, _, rfl⟩
      · rw [h2, e4]
        have hs : Sorted n ps := fun i hi => Classical.byContradiction (h1 i (List.mem_range.mpr hi))
        simp_arith [two_in_eq n ms ps m hl, opLen_p]
        refine W.pos (by decide) ?_
        simp_arith [opMulA_l k _ ⟨by omega, by omega⟩]
        rw [decide_tr, tr_congr (q := Crowd n ms k ps) ⟨fun z => ⟨hs, by omega, by omega, z⟩, fun z => z.2.2.2⟩]
      · rw [h2]
        simp_arith
        obtain ⟨i, hi, hc⟩ := h1
        rw [tr_false (p := Crowd n ms k ps) fun z => hc (z.1 i (List.mem_range.mp hi))]
theorem eLc_bind (it : Ix) (vs : List Nat) (g : Tg) (tt : Tx) (te : Ex) (ρ : Rho) (m : Store) : eLc it vs g tt te ρ m = (it ρ m).bind fun p => (lcLoop g tt te (wipeE ρ vs) p.1 p.2).bind fun r => if r.1.length ≤ big then some (.d (.lst r.1), r.2) else none := rfl
theorem pair_fold (a b : Int) : D.tup [.int a, .int b] = pairD (a, b) := rfl
theorem opIx_msl (ms : Ms) (i : Int) (h0 : 0 ≤ i) (h : i < ms.length) : opIx (.lst (ms.map pairD)) (.int i) = some (pairD (pr ms i.toNat)) := atI_map' pairD ms (0, 0) i h0 h
theorem consec_sorted (first : Int) (size : Nat) (n : Int) (h0 : 0 ≤ first) (h1 : first + size ≤ n) : Sorted n ((List.range size).map fun (i : Nat) => first + (i : Int)) := fun i hi => by
  have hl : ((List.range size).map fun (i : Nat) => first + (i : Int)).length = size := by simp
  have g : ∀ j : Nat, j < size → ((List.range size).map fun (i : Nat) => first + (i : Int)).getD j 0 = first + j := fun j hj => by
    rw [List.getD_eq_getElem?_getD, List.getElem?_map, List.getElem?_range hj]; rfl
  rw [hl] at hi
  rw [g i hi]
  refine ⟨⟨by omega, by omega⟩, fun h => ?_⟩
  rw [g (i - 1) (by omega)]
  omega
theorem law_crowds_spec {row : List Int} {t c : Int} (h0 : 0 ≤ c) (h1 : c ≤ 900000) : W (m__law_crowds [dl row t] [ck c]) fun p => ∃ c' : Int, c ≤ c' ∧ c' ≤ c + 100 ∧ p = (.d (.bl true), [ck c']) := by
  unfold m__law_crowds
  rw [fnD_eq 1 19 b__law_crowds _ _ rfl]
  unfold b__law_crowds
  generalize hT : (sFor (iSeq (eLst (aCons (eV 8) (aCons (eBin (g2 opAdd) (eV 8) (eLst (aCons (eV 10) aNil))) aNil)))) _ _) = T
  simp_arith
  refine W.step (take_spec (by omega) (by omega) (by omega)) ?_
  rintro _ ⟨hf, hf0, hf1, rfl⟩
  obtain ⟨half, ehf⟩ : ∃ half : Int, 1 + hf = half := ⟨_, rfl⟩
  simp_arith
  rw [ehf]
  simp_arith [opMulA_l 2 half (by decide)]
  obtain ⟨size, esz⟩ : ∃ size : Int, 2 * half + 1 = size := ⟨_, rfl⟩
  rw [esz]
  refine W.step (take_spec (by omega) (by omega) (by omega)) ?_
  rintro _ ⟨first, fi0, fi1, rfl⟩
  simp_arith
  refine W.step (take_spec (by omega) (by omega) (by omega)) ?_
  rintro _ ⟨k, k0, k1, rfl⟩
  simp_arith
  have hsz : 3 ≤ size ∧ size ≤ 5 := by omega
  rw [eLc_all (ys := List.range size.toNat) (k := fun (i : Nat) => D.int (i : Int)) (fun (i : Nat) => .int (first + (i : Int))) (rng (n := size.toNat) (by simp_arith; rw [Int.toNat_of_nonneg (by omega)]) (by omega)) (by simp; omega)]
  · rw [show (List.range size.toNat).map (fun (i : Nat) => D.int (first + (i : Int))) = ((List.range size.toNat).map fun (i : Nat) => first + (i : Int)).map D.int by rw [List.map_map]; rfl]
    simp_arith [opTuple_li, tup_p]
    obtain ⟨P, eP⟩ : ∃ P : List Int, (List.range size.toNat).map (fun (i : Nat) => first + (i : Int)) = P := ⟨_, rfl⟩
    rw [eP]
    have hPl : P.length = size.toNat := by rw [← eP]; simp
    have hP : ∀ j : Nat, j < size.toNat → P.getD j 0 = first + (j : Int) := fun j hj => by
      rw [← eP, List.getD_eq_getElem?_getD, List.getElem?_map, List.getElem?_range hj]; rfl
    have hPm : ∀ x, first ≤ x → x < first + size → x ∈ P := fun x a b => by
      rw [← eP]
      exact List.mem_map.mpr ⟨(x - first).toNat, List.mem_range.mpr (by omega), by omega⟩
    have hPm2 : ∀ x ∈ P, first ≤ x ∧ x < first + size := fun x hx => by
      rw [← eP] at hx
      obtain ⟨i, hi, rfl⟩ := List.mem_map.mp hx
      have := List.mem_range.mp hi
      omega
    refine W.rg ⟨by omega, by omega⟩ ?_
    simp_arith
    refine W.loop (fun i ρ m => m = [ck (c + 1 + 1 + 1)] ∧ ∃ (prs : Ms) (x7 : Option E), (∀ q ∈ prs, first ≤ q.1 ∧ q.1 < q.2 ∧ q.2 < first + size) ∧ (0 < i → 0 < prs.length) ∧ prs.length ≤ 10 * i ∧ ρ = [some (dl row t), some (.d (.int half)), some (.d (.int size)), some (.d (.int first)), some (.d (.int k)), some (.d (planD P)), some (.d (.lst (prs.map pairD))), x7, none, none, none, none, none, none, none, none, none, none, none, none]) ⟨rfl, [], _, (fun _ h => nomatch h), fun h => absurd h (by omega), Nat.zero_le _, rfl⟩ ?_ ?_
    · rintro i y hy ρ m ⟨rfl, prs, x7, hq, hpos, hlen, rfl⟩
      obtain ⟨hi, rfl⟩ := getElem?_range hy
      refine ⟨_, rfl, ?_⟩
      simp_arith
      rw [eLc_all (ys := List.range (size - ((y : Int) + 1)).toNat) (k := fun (i : Nat) => D.int ((y : Int) + 1 + (i : Int))) (fun (i : Nat) => pairD (first + (y : Int), first + ((y : Int) + 1 + (i : Int)))) (iRange2_eq (e := .d (.int ((y : Int) + 1))) (e' := .d (.int size)) rfl rfl rfl rfl ⟨by omega, by omega, by omega, by omega⟩) (by simp; omega)]
      · rw [show (List.range (size - ((y : Int) + 1)).toNat).map (fun (i : Nat) => pairD (first + (y : Int), first + ((y : Int) + 1 + (i : Int)))) = ((List.range (size - ((y : Int) + 1)).toNat).map fun (i : Nat) => (first + (y : Int), first + ((y : Int) + 1 + (i : Int)))).map pairD by rw [List.map_map]; rfl]
        simp_arith
        rw [opAdd_ll _ _ (by simp; omega), ← List.map_append]
        simp_arith
        refine ⟨goes_nx, by trivial, _, _, fun q hq2 => ?_, fun _ => ?_, ?_, rfl⟩
        · rcases List.mem_append.mp hq2 with h | h
          · exact hq q h
          · obtain ⟨j, hj, rfl⟩ := List.mem_map.mp h
            have := List.mem_range.mp hj
            exact ⟨by show first ≤ first + (y : Int); omega, by show first + (y : Int) < first + ((y : Int) + 1 + (j : Int)); omega, by show first + ((y : Int) + 1 + (j : Int)) < first + size; omega⟩
        · rw [List.length_append, List.length_map, List.length_range]
          by_cases e : y = 0
          · subst e; omega
          · have := hpos (by omega); omega
        · rw [List.length_append, List.length_map, List.length_range]; omega
      · intro j hj
        have hj := List.mem_range.mp hj
        refine ⟨_, rfl, ?_⟩
        simp_arith [opIx_p P y (by omega) (by omega), opIx_p P ((y : Int) + 1 + (j : Int)) (by omega) (by omega), hP y (by omega), hP ((y : Int) + 1 + (j : Int)).toNat (by omega), pair_fold]
        rw [show ((((y : Int) + 1 + (j : Int)).toNat : Nat) : Int) = (y : Int) + 1 + (j : Int) by omega]
    · rintro ρ m ⟨rfl, prs, x7, hq, hpos, hlen, rfl⟩
      rw [List.length_range] at hpos hlen
      have hpos := hpos (by omega)
      have hq' : ∀ j : Nat, j < prs.length → first ≤ (pr prs j).1 ∧ (pr prs j).1 < (pr prs j).2 ∧ (pr prs j).2 < first + size := fun j hj => hq _ (pr_mem hj)
      simp_arith
      rw [eLc_bind]
      simp_arith [opMulA_l k half ⟨by omega, by omega⟩]
      have hkh : 0 ≤ k * half ∧ k * half ≤ 6 := by
        have h3 : k = 0 ∨ k = 1 ∨ k = 2 ∨ k = 3 := by omega
        have h4 : half = 1 ∨ half = 2 := by omega
        rcases h3 with rfl | rfl | rfl | rfl <;> rcases h4 with rfl | rfl <;> decide
      obtain ⟨kh, ekh⟩ : ∃ kh : Int, k * half = kh := ⟨_, rfl⟩
      rw [ekh] at hkh ⊢
      refine W.rg ⟨by omega, by omega⟩ ?_
      simp_arith
      refine W.lc (fun i ds m => ∃ (xs : Ms) (c' : Int), ds = xs.map pairD ∧ m = [ck c'] ∧ xs.length = i ∧ c' = c + 3 + i ∧ ∀ q ∈ xs, q ∈ prs) ⟨[], _, rfl, rfl, rfl, by omega, (fun _ h => nomatch h)⟩ ?_ ?_
      · rintro i y hy ds m ⟨xs, c', rfl, rfl, hx, hc, hin⟩
        obtain ⟨hi, rfl⟩ := getElem?_range hy
        refine ⟨_, rfl, ?_⟩
        simp_arith
        refine ⟨fun _ => ?_, fun z => z.elim⟩
        refine W.step (take_spec (by omega) (by omega) (by omega)) ?_
        rintro _ ⟨v, v0, v1, rfl⟩
        simp_arith [opIx_msl prs v v0 v1]
        refine ⟨xs ++ [pr prs v.toNat], _, by rw [List.map_append]; rfl, rfl, by simp; omega, by omega, fun q hq2 => ?_⟩
        rcases List.mem_append.mp hq2 with h | h
        · exact hin q h
        · rw [List.mem_singleton.mp h]; exact pr_mem (by omega)
      · rintro ds m ⟨ones, c', rfl, rfl, hx, hc, hin⟩
        rw [List.length_range] at hx hc
        simp_arith
        refine W.pos (by rw [hx]; unfold big; omega) ?_
        simp_arith
        rw [eLc_all (ys := List.range (first + size).toNat) (k := fun (i : Nat) => D.int (i : Int)) (fun (i : Nat) => pairD ((i : Int), first + size)) (rng (n := (first + size).toNat) (by simp_arith; rw [Int.toNat_of_nonneg (by omega)]) (by omega)) (by simp; omega)]
        · rw [show (List.range (first + size).toNat).map (fun (i : Nat) => pairD ((i : Int), first + size)) = ((List.range (first + size).toNat).map fun (i : Nat) => ((i : Int), first + size)).map pairD by rw [List.map_map]; rfl]
          simp_arith
          refine W.step (take_spec (by omega) (by omega) (by omega)) ?_
          rintro _ ⟨v, v0, v1, rfl⟩
          simp_arith [opIx_msl prs v v0 v1]
          have hmore := pr_mem (ms := prs) (i := v.toNat) (by omega)
          generalize pr prs v.toNat = more at hmore
          refine W.step (take_spec (by omega) (by omega) (by omega)) ?_
          rintro _ ⟨at', a0, a1, rfl⟩
          simp_arith
          rw [← hT]
          simp_arith
          rw [opAdd_ll _ _ (by simp; omega), show ones.map pairD ++ [pairD more] = (ones ++ [more]).map pairD by rw [List.map_append]; rfl]
          simp_arith
          have hP2 : Sorted (first + size + 1) P := by
            rw [← eP]
            exact consec_sorted first size.toNat (first + size + 1) fi0 (by omega)
          obtain ⟨OUT, eOUT⟩ : ∃ OUT : Ms, (List.range (first + size).toNat).map (fun (i : Nat) => ((i : Int), first + size)) = OUT := ⟨_, rfl⟩
          have hOl : OUT.length ≤ 10 := by rw [← eOUT]; simp; omega
          have hOm : ∀ q ∈ OUT, 0 ≤ q.1 ∧ q.1 < q.2 ∧ q.2 = first + size := fun q hq => by
            rw [← eOUT] at hq
            obtain ⟨i, hi, rfl⟩ := List.mem_map.mp hq
            have := List.mem_range.mp hi
            exact ⟨by show (0 : Int) ≤ (i : Int); omega, by show (i : Int) < first + size; omega, rfl⟩
          rw [eOUT]
          have web_fold : ∀ (n : Int) (l : Ms), D.tup [.int n, .tup (l.map pairD)] = webD n l := fun _ _ => rfl
          have add : ∀ a b : List Int, a.length ≤ 20 → b.length ≤ 20 → opAdd (planD a) (planD b) = some (planD (a ++ b)) := fun a b h1 h2 => opAdd_pp a b (by omega)
          have l1 := cutD_len P none (some (-1))
          have l2 := cutD_len P none (some at')
          have l3 := cutD_len P (some (at' + 1)) none
          have l4 := cutD_len P none (some 2)
          have l5 := cutD_len P none (some 1)
          have l6 := cutD_len P none (some (-2))
          have l7 := cutD_len P (some 1) none
          refine W.loopE (fun l : Ms => D.lst (l.map pairD)) [ones, ones ++ [more]] (by rfl) (fun i ρ m => m = [ck (c' + 1 + 1)] ∧ ∃ x7 x12 x13 x14 x15 x16, ρ = [some (dl row t), some (.d (.int half)), some (.d (.int size)), some (.d (.int first)), some (.d (.int k)), some (.d (planD P)), some (.d (.lst (prs.map pairD))), x7, some (.d (.lst (ones.map pairD))), some (.d (.lst (OUT.map pairD))), some (.d (pairD more)), some (.d (.int at')), x12, x13, x14, x15, x16, none, none, none]) ⟨rfl, _, _, _, _, _, _, rfl⟩ ?_ ?_
          · rintro i w hw ρ m ⟨rfl, x7, x12, x13, x14, x15, x16, rfl⟩
            have hwl : w.length ≤ 20 ∧ ∀ q ∈ w, q ∈ prs := by
              have := List.mem_of_getElem? hw
              simp only [List.mem_cons, List.not_mem_nil, or_false] at this
              rcases this with rfl | rfl
              · exact ⟨by omega, hin⟩
              · refine ⟨by simp; omega, fun q hq2 => ?_⟩
                rcases List.mem_append.mp hq2 with h | h
                · exact hin q h
                · rw [List.mem_singleton.mp h]; exact hmore
            obtain ⟨hwl, hwm⟩ := hwl
            have hOw : (OUT ++ w).length ≤ 100 := by rw [List.length_append]; omega
            refine ⟨_, rfl, ?_⟩
            simp_arith [opAdd_ll (OUT.map pairD) (w.map pairD) (by simp; omega), ← List.map_append, web_fold, opSl_p, opRev_p, one_p, opIx_pw P (at' - 1) (by omega) (by omega), add (cutD P none (some at')) [wrapD P (at' - 1)] (by omega) (by simp), add (cutD P none (some at') ++ [wrapD P (at' - 1)]) (cutD P (some (at' + 1)) none) (by simp; omega) (by omega), add (cutD P none (some 2)) (cutD P none (some 1)) (by omega) (by omega)]
            simp_arith [opSl_p, one_p, add (cutD P none (some at')) [-1] (by omega) (by simp), add (cutD P none (some at') ++ [-1]) (cutD P (some (at' + 1)) none) (by simp; omega) (by omega), add (cutD P none (some (-1))) [first + size + 1] (by omega) (by simp), add P [first + size] (by omega) (by simp)]
            rw [opAdd_ll _ _ (by simp)]
            simp_arith [opSl_p, one_p, add P P (by omega) (by omega), add (cutD P (some 1) none) [first + size] (by omega) (by simp)]
            rw [opAdd_ll _ _ (by simp)]
            simp_arith
            have judge : ∀ (ps : List Int) (m : Store), ps.length ≤ 100 → m_shows_crowd [.d (webD (first + size + 1) (OUT ++ w)), .d (.int k), .d (planD ps)] m = some (.d (.bl (tr (Crowd (first + size + 1) (OUT ++ w) k ps))), m) := fun ps m h => shows_crowd_eq _ _ k ps m (by omega) (by omega) k0 (by omega)
            refine W.loopE planD [P, cutD P none (some (-1)), P.reverse, cutD P none (some at') ++ [wrapD P (at' - 1)] ++ cutD P (some (at' + 1)) none, cutD P none (some 2) ++ cutD P none (some 1), cutD P none (some at') ++ [-1] ++ cutD P (some (at' + 1)) none, cutD P none (some (-1)) ++ [first + size + 1], P ++ [first + size], P ++ P, cutD P none (some 1), [], cutD P none (some (-2)), cutD P (some 1) none ++ [first + size]] (by rfl) (fun i ρ m => m = [ck (c' + 1 + 1)] ∧ ∃ x14 x15 x16, ρ = [some (dl row t), some (.d (.int half)), some (.d (.int size)), some (.d (.int first)), some (.d (.int k)), some (.d (planD P)), some (.d (.lst (prs.map pairD))), x7, some (.d (.lst (ones.map pairD))), some (.d (.lst (OUT.map pairD))), some (.d (pairD more)), some (.d (.int at')), some (.d (.lst (w.map pairD))), some (.d (webD (first + size + 1) (OUT ++ w))), x14, x15, x16, none, none, none]) ⟨rfl, _, _, _, rfl⟩ ?_ ?_
            · rintro j ps hj ρ m ⟨rfl, x14, x15, x16, rfl⟩
              have hpl : ps.length ≤ 100 := by
                have := List.mem_of_getElem? hj
                simp only [List.mem_cons, List.not_mem_nil, or_false] at this
                rcases this with rfl | rfl | rfl | rfl | rfl | rfl | rfl | rfl | rfl | rfl | rfl | rfl | rfl <;> (try simp) <;> omega
              refine ⟨_, rfl, ?_⟩
              simp_arith [law_sorted_eq (first + size + 1) (OUT ++ w) ps [ck (c' + 1 + 1)] (by omega), opLen_p]
              by_cases d1 : Sorted (first + size + 1) ps
              · rw [tr_true d1]
                simp_arith [opLen_p]
                refine W.pos (by decide) ?_
                simp_arith
                by_cases d2 : (ps.length : Int) % 2 = 1
                · rw [decide_eq_true d2]
                  simp_arith [opLen_p]
                  by_cases d3 : 2 < (ps.length : Int)
                  · rw [decide_eq_true d3]
                    simp_arith [law_inside_eq (first + size + 1) (OUT ++ w) ps [ck (c' + 1 + 1)] (by omega), opLen_p]
                    refine W.pos (by decide) ?_
                    simp_arith [opMulA_l k _ ⟨by omega, by omega⟩, judge ps _ hpl]
                    rw [decide_tr, tr_congr (q := Crowd (first + size + 1) (OUT ++ w) k ps) ⟨fun z => ⟨d1, d2, d3, z⟩, fun z => z.2.2.2⟩]
                    simp_arith [law_bool_eq]
                    exact ⟨goes_nx, by trivial, _, _, _, rfl⟩
                  · rw [decide_eq_false d3]
                    simp_arith [judge ps _ hpl]
                    rw [tr_false (p := Crowd (first + size + 1) (OUT ++ w) k ps) fun z => d3 z.2.2.1]
                    simp_arith [law_bool_eq]
                    exact ⟨goes_nx, by trivial, _, _, _, rfl⟩
                · rw [decide_eq_false d2]
                  simp_arith [judge ps _ hpl]
                  rw [tr_false (p := Crowd (first + size + 1) (OUT ++ w) k ps) fun z => d2 z.2.1]
                  simp_arith [law_bool_eq]
                  exact ⟨goes_nx, by trivial, _, _, _, rfl⟩
              · rw [tr_false d1]
                simp_arith [judge ps _ hpl]
                rw [tr_false (p := Crowd (first + size + 1) (OUT ++ w) k ps) fun z => d1 z.1]
                simp_arith [law_bool_eq]
                exact ⟨goes_nx, by trivial, _, _, _, rfl⟩
            · rintro ρ m ⟨rfl, x14, x15, x16, rfl⟩
              simp_arith [judge P _ (by omega), ekh, law_bool_eq]
              rw [opMulA_l k half ⟨by omega, by omega⟩]
              simp_arith [law_bool_eq]
              have e : tr (Crowd (first + size + 1) (OUT ++ w) k P) = decide (k * half < (w.length : Int)) := by
                have hins : insideN (OUT ++ w) P = w.length := by
                  unfold insideN
                  rw [List.filter_append, List.length_append, filter_none.mpr fun q hq => ?_, Nat.zero_add, List.filter_eq_self.mpr fun q hq => ?_]
                  · have := hq' 
                    have h := hq
                    have hq2 := hwm q h
                    obtain ⟨b1, b2, b3⟩ := (fun (x : Int × Int) (hx : x ∈ prs) => (‹∀ q ∈ prs, first ≤ q.1 ∧ q.1 < q.2 ∧ q.2 < first + size› x hx)) q hq2
                    exact decide_eq_true ⟨hPm _ b1 (by omega), hPm _ (by omega) b3⟩
                  · have := hOm q hq
                    exact decide_eq_false fun z => by have := hPm2 _ z.2; omega
                rw [decide_tr]
                have hs2 : (P.length : Int) / 2 = half := by omega
                refine tr_congr ⟨fun z => ?_, fun z => ⟨hP2, by omega, by omega, ?_⟩⟩
                · have := z.2.2.2
                  rw [hins, hs2] at this
                  exact this
                · rw [hins, hs2]; exact z
              rw [e, decide_eq_true rfl]
              simp_arith
              exact ⟨goes_nx, by trivial, _, _, _, _, _, _, rfl⟩
          · rintro ρ m ⟨rfl, x7, x12, x13, x14, x15, x16, rfl⟩
            simp_arith
            exact ⟨c' + 1 + 1, by omega, by omega, rfl⟩
        · intro i hi
          refine ⟨_, rfl, ?_⟩
          simp_arith [pair_fold]
  · intro i hi
    exact ⟨_, rfl, by simp_arith⟩
end Lw
namespace Lw
open PySem PySem.Spec L2 PL
set_option autoImplicit false
local macro_rules | `(tactic| simp_arith [$ls,*]) => `(tactic| try simp (maxSteps := 2000000) only [eV, eC, eBin, g2, eUn, eBi, eCall, aNil, aCons, sSeq, sRet, sIf, sSet, sAsg, sExp, tgName, tgTup_pair, sNil, eIf, tAndM, tOrM, tNotM, eAnd, eOr, eNot, tTrue, sFor, iRange1_bind, iSeq, eSl, oNone, oSome, opNeg_i, opSl_l, opSl_t, tOf_eq, look_d, frzE_d, frzAll, eLst, eTup, eLstO, eApp, sPutL, cellL, look, frzE, gIx_d, gIx_own, gIx_deal, dealAt, intOf, opAdd_i, opI_i, opEqA_i, opNeA_i, opEqA_b, opLen_l, opLen_t, opLen_s, opLen_d, itemsOf_l, itemsOf_t, opTuple_l, opTuple_t, opList_l, opList_t, opIx_web0, opIx_web1, opIx_ck, opIn_pair, opNotIn_pair, wipeE, fin, ck, 
  Option.bind_some, Option.bind_none, Option.bind_assoc, W_some, List.map_cons, List.map_nil, List.replicate, List.cons_append, List.nil_append, List.getElem?_cons_zero, List.getElem?_cons_succ, List.set_cons_zero, List.set_cons_succ, List.length_cons, List.length_nil, List.take_succ_cons, List.take_zero, List.take_nil, List.take_length, List.length_append, Nat.zero_add, Nat.lt_irrefl, Option.map_some, List.length_map, Int.toNat_natCast, if_true, if_false, Bool.false_eq_true, Bool.not_true, Bool.not_false, decide_true, decide_false, reduceCtorEq, lb0, lb1, lb2, lb3, lb4, lb5, lb6, lb7, lb8, lb9, lb10, lb11, lb12, lb13, lb14, lb15, lb16, lb17, $ls,*])
local macro_rules | `(tactic| simp_arith) => `(tactic| simp_arith [Option.bind_some])
theorem pairD_inj {p q : Int × Int} (h : pairD p = pairD q) : p = q := by
  unfold pairD at h
  cases p; cases q
  simp at h
  rw [h.1, h.2]
theorem mem_pairs {p : Int × Int} {ms : Ms} : pairD p ∈ ms.map pairD ↔ p ∈ ms := ⟨fun h => by
  obtain ⟨q, hq, e⟩ := List.mem_map.mp h
  rw [← pairD_inj e]; exact hq, fun h => List.mem_map.mpr ⟨p, h, rfl⟩⟩
theorem opNotIn_pairs (p : Int × Int) (qs : Ms) : opNotIn (pairD p) (.tup (qs.map pairD)) = some (.bl (!decide (p ∈ qs))) := by
  have h := opIn_pairs p qs
  unfold opIn at h
  unfold opNotIn
  obtain ⟨b, e, h⟩ := Option.map_eq_some_iff.mp h
  rw [e]
  have h : b = decide (pairD p ∈ qs.map pairD) := by injection h
  rw [h]
  show some (D.bl (!decide (pairD p ∈ qs.map pairD))) = _
  rw [decide_eq_decide.mpr (mem_pairs (p := p) (ms := qs))]
def both (x y : Int) : Int × Int := if x ≤ y then (x, y) else (y, x)
theorem srt_two (x y : Int) : srt [x, y] = [(both x y).1, (both x y).2] := by
  refine (srt_unique ?_ ?_).symm
  · unfold both
    by_cases h : x ≤ y
    · rw [if_pos h]
    · rw [if_neg h]; exact List.Perm.swap _ _ _
  · unfold both
    by_cases h : x ≤ y
    · rw [if_pos h]; simp [h]
    · rw [if_neg h]; simp; omega
def Ring (ms : Ms) (ps : List Int) : Prop := ¬ (ps.length : Int) < 3 ∧ ¬ (ps.length : Int) % 2 = 0 ∧ ∀ i : Nat, i < ps.length → both (wrapD ps ((i : Int) - 1)) (wrapD ps i) ∈ ms
theorem opSorted_two (x y : Int) : opSorted (.lst [.int x, .int y]) = some (.lst [.int (both x y).1, .int (both x y).2]) := by
  have h : intsOf [D.int x, D.int y] = some [x, y] := rfl
  unfold opSorted
  simp only [h, Option.map_some, srt_two]
  rfl
theorem tgTup_two (i j : Nat) (a b : Int) (ρ : Rho) : tgTup [i, j] (.d (.lst [.int a, .int b])) ρ = some ((ρ.set i (some (.d (.int a)))).set j (some (.d (.int b)))) := rfl
theorem shows_ring_eq (n : Int) (ms : Ms) (ps : List Int) (m : Store) (hl : ms.length ≤ 1000) (hp : ps.length ≤ 1000) : m_shows_ring [.d (webD n ms), .d (.lst (ps.map .int))] m = some (.d (.bl (tr (Ring ms ps))), m) := by
  refine W.toEq ?_
  unfold m_shows_ring
  rw [fnD_eq 2 3 b_shows_ring _ m rfl]
  unfold b_shows_ring
  simp_arith
  by_cases c1 : (ps.length : Int) < 3
  · rw [decide_eq_true c1]
    simp_arith
    rw [tr_false fun z => z.1 c1]
  · rw [decide_eq_false c1]
    simp_arith
    refine W.pos (by decide) ?_
    simp_arith
    by_cases c2 : (ps.length : Int) % 2 = 0
    · rw [decide_eq_true c2]
      simp_arith
      rw [tr_false fun z => z.2.1 c2]
    · rw [decide_eq_false c2]
      simp_arith
      refine W.rg ⟨by omega, by omega⟩ ?_
      simp_arith
      generalize hx : forL _ _ _ _ _ = x
      refine Or.elim (forL_srch (fun i : Nat => ¬ both (wrapD ps ((i : Int) - 1)) (wrapD ps i) ∈ ms) (fun ρ => ∃ x2 x3 x4, ρ = [some (.d (webD n ms)), some (.d (.lst (ps.map .int))), x2, x3, x4]) (.d (.bl false)) hx ⟨_, _, _, rfl⟩ ?_) (fun ⟨h1, ρ2, ⟨x2, x3, x4, e4⟩, h2⟩ => ?_) (fun ⟨h1, ρ2, h2⟩ => ?_)
      · intro i hi ρ hρ
        obtain ⟨x2, x3, x4, rfl⟩ := hρ
        have hi := List.mem_range.mp hi
        refine ⟨_, rfl, ?_⟩
        simp_arith [opIx_lw ps ((i : Int) - 1) (by omega) (by omega), opIx_lw ps i (by omega) (by omega), opSorted_two, tgTup_two, pair_fold, opNotIn_pairs]
        by_cases h : both (wrapD ps ((i : Int) - 1)) (wrapD ps i) ∈ ms
        · rw [decide_eq_true h]
          exact .inr ⟨fun z => z h, _, ⟨_, _, _, rfl⟩, rfl⟩
        · rw [decide_eq_false h]
          exact .inl ⟨h, _, rfl⟩
      · rw [h2, e4]
        simp_arith
        rw [tr_true (p := Ring ms ps) ⟨c1, c2, fun i hi => Classical.byContradiction (h1 i (List.mem_range.mpr hi))⟩]
      · rw [h2]
        simp_arith
        obtain ⟨i, hi, hc⟩ := h1
        rw [tr_false (p := Ring ms ps) fun z => hc (z.2.2 i (List.mem_range.mp hi))]
theorem both_iff {n : Int} {ms : Ms} (hg : Good n ms) (x y : Int) : both x y ∈ ms ↔ ∃ q ∈ ms, (x = q.1 ∨ x = q.2) ∧ (y = q.1 ∨ y = q.2) ∧ ¬ x = y := by
  constructor
  · intro h
    have := hg _ h
    refine ⟨_, h, ?_⟩
    unfold both at this ⊢
    by_cases e : x ≤ y
    · rw [if_pos e] at this ⊢
      have : 0 ≤ x ∧ x < y ∧ y < n := this
      exact ⟨.inl rfl, .inr rfl, by omega⟩
    · rw [if_neg e]
      exact ⟨.inr rfl, .inl rfl, by omega⟩
  · rintro ⟨q, hq, h1, h2, h3⟩
    have := hg q hq
    have e : both x y = q := by
      unfold both
      rcases h1 with h1 | h1 <;> rcases h2 with h2 | h2
      · omega
      · rw [if_pos (by omega), h1, h2]
      · rw [if_neg (by omega), h1, h2]
      · omega
    rw [e]; exact hq
theorem law_ring_eq (n : Int) (ms : Ms) (ps : List Int) (m : Store) (hl : ms.length ≤ 1000) (hp : ps.length ≤ 1000) (hg : Good n ms) : m__law_ring [.d (webD n ms), .d (.lst (ps.map .int))] m = some (.d (.bl (tr (Ring ms ps))), m) := by
  refine W.toEq ?_
  unfold m__law_ring
  rw [fnD_eq 2 3 b__law_ring _ m rfl]
  unfold b__law_ring
  simp_arith
  by_cases c1 : (ps.length : Int) < 3
  · rw [decide_eq_true c1]
    simp_arith
    rw [tr_false fun z => z.1 c1]
  · rw [decide_eq_false c1]
    simp_arith
    refine W.pos (by decide) ?_
    simp_arith
    by_cases c2 : (ps.length : Int) % 2 = 0
    · rw [decide_eq_true c2]
      simp_arith
      rw [tr_false fun z => z.2.1 c2]
    · rw [decide_eq_false c2]
      simp_arith
      refine W.rg ⟨by omega, by omega⟩ ?_
      simp_arith
      generalize hx : forL _ _ _ _ _ = x
      refine Or.elim (forL_srch (fun i : Nat => ¬ both (wrapD ps ((i : Int) - 1)) (wrapD ps i) ∈ ms) (fun ρ => ∃ x2, ρ = [some (.d (webD n ms)), some (.d (.lst (ps.map .int))), x2, none, none]) (.d (.bl false)) hx ⟨_, rfl⟩ ?_) (fun ⟨h1, ρ2, ⟨x2, e4⟩, h2⟩ => ?_) (fun ⟨h1, ρ2, h2⟩ => ?_)
      · intro i hi ρ hρ
        obtain ⟨x2, rfl⟩ := hρ
        have hi := List.mem_range.mp hi
        refine ⟨_, rfl, ?_⟩
        simp_arith
        rw [eLc_map (ys := ms) (k := pairD) (fun q => decide ((wrapD ps ((i : Int) - 1) = q.1 ∨ wrapD ps ((i : Int) - 1) = q.2) ∧ (wrapD ps i = q.1 ∨ wrapD ps i = q.2) ∧ ¬ wrapD ps ((i : Int) - 1) = wrapD ps i)) (fun _ => .int 1) (ms_items rfl) (by omega)]
        · simp_arith
          rw [count_tr (P := ¬ both (wrapD ps ((i : Int) - 1)) (wrapD ps i) ∈ ms) ⟨fun z q hq => decide_eq_false fun w => z ((both_iff hg _ _).mpr ⟨q, hq, w⟩), fun z w => by
            obtain ⟨q, hq, h⟩ := (both_iff hg _ _).mp w
            exact of_decide_eq_false (z q hq) h⟩]
          by_cases h : both (wrapD ps ((i : Int) - 1)) (wrapD ps i) ∈ ms
          · rw [tr_false fun z => z h]
            exact .inr ⟨fun z => z h, _, ⟨_, rfl⟩, rfl⟩
          · rw [tr_true h]
            exact .inl ⟨h, _, rfl⟩
        · intro q hq
          refine ⟨_, rfl, ?_, fun _ => by simp_arith⟩
          simp_arith [opIx_lw ps ((i : Int) - 1) (by omega) (by omega), opIx_lw ps i (by omega) (by omega), pair_fold, opIn_pair]
          by_cases a1 : wrapD ps ((i : Int) - 1) = q.1 ∨ wrapD ps ((i : Int) - 1) = q.2
          · simp_arith [decide_eq_true a1, opIx_lw ps i (by omega) (by omega)]
            by_cases a2 : wrapD ps i = q.1 ∨ wrapD ps i = q.2
            · simp_arith [decide_eq_true a2, opIx_lw ps ((i : Int) - 1) (by omega) (by omega)]
              simp [a1, a2]
            · simp_arith [decide_eq_false a2]
              simp [a2]
          · simp_arith [decide_eq_false a1]
            simp [a1]
      · rw [h2, e4]
        simp_arith
        rw [tr_true (p := Ring ms ps) ⟨c1, c2, fun i hi => Classical.byContradiction (h1 i (List.mem_range.mpr hi))⟩]
      · rw [h2]
        simp_arith
        obtain ⟨i, hi, hc⟩ := h1
        rw [tr_false (p := Ring ms ps) fun z => hc (z.2.2 i (List.mem_range.mp hi))]
/-! ### an order -/
theorem drop_one {l : List Int} (h : l.Nodup) {v : Int} (hv : v ∈ l) : (l.filter fun x => !decide (x = v)).length + 1 = l.length := by
  induction l with
  | nil => cases hv
  | cons x xs ih =>
    obtain ⟨h1, h2⟩ := List.nodup_cons.mp h
    rw [List.filter_cons]
    by_cases e : x = v
    · rw [e, decide_eq_true rfl, if_neg (by simp)]
      have : (xs.filter fun x => !decide (x = v)) = xs := List.filter_eq_self.mpr fun y hy => by
        rw [decide_eq_false fun z => h1 (by rw [e, ← z]; exact hy)]; rfl
      rw [this, List.length_cons]
    · rw [decide_eq_false e, Bool.not_false, if_pos rfl, List.length_cons, List.length_cons]
      have := ih h2 ((List.mem_cons.mp hv).resolve_left fun z => e z.symm)
      omega
theorem law_order_spec {row : List Int} {t c many : Int} (h0 : 0 ≤ c) (h1 : c ≤ 900000) (hm : 0 ≤ many) (hm2 : many ≤ 100) : W (m__law_order [dl row t, .d (.int many)] [ck c]) fun p => ∃ (names : List Int), (names.length : Int) = many ∧ names.Nodup ∧ (∀ x ∈ names, 0 ≤ x ∧ x < many) ∧ p = (.d (.lst (names.map .int)), [ck (c + many)]) := by
  unfold m__law_order
  rw [fnD_eq 2 4 b__law_order _ _ rfl]
  unfold b__law_order
  simp_arith
  unfold eListRg
  simp_arith
  refine W.pos (big_ok (by omega) (by omega)) ?_
  have er : rangeE 0 many.toNat = ((List.range many.toNat).map fun (i : Nat) => (i : Int)).map D.int := by rw [rangeE_zero, List.map_map]; rfl
  rw [er]
  simp_arith
  refine W.rg ⟨by omega, by omega⟩ ?_
  simp_arith
  refine W.loop (fun i ρ m => ∃ (left order : List Int) (x4 : Option E), (left ++ order).Nodup ∧ left.length + order.length = many.toNat ∧ order.length = i ∧ (∀ x ∈ left ++ order, 0 ≤ x ∧ x < many) ∧ m = [ck (c + i), .lst (order.map .int)] ∧ ρ = [some (dl row t), some (.d (.int many)), some (.d (.lst (left.map .int))), some (.own 1), x4, none]) ?_ ?_ ?_
  · refine ⟨(List.range many.toNat).map fun (i : Nat) => (i : Int), [], _, ?_, by simp, rfl, fun x hx => ?_, by simp, rfl⟩
    · rw [List.append_nil, List.nodup_iff_pairwise_ne, List.pairwise_map]
      exact (List.nodup_iff_pairwise_ne.mp List.nodup_range).imp fun h e => h (by omega)
    · rw [List.append_nil] at hx
      obtain ⟨j, hj, rfl⟩ := List.mem_map.mp hx
      have := List.mem_range.mp hj
      omega
  · rintro i y hy ρ m ⟨left, order, x4, nd, hlen, hi2, hr, rfl, rfl⟩
    obtain ⟨hi, rfl⟩ := getElem?_range hy
    refine ⟨_, rfl, ?_⟩
    simp_arith
    refine W.step (take_spec (by omega) (by omega) (by omega)) ?_
    rintro _ ⟨v, v0, v1, rfl⟩
    simp_arith [opIx_li left v v0 v1]
    have hx : left.getD v.toNat 0 ∈ left := getD_mem (by omega)
    generalize left.getD v.toNat 0 = x at hx
    rw [if_pos (by unfold big; omega)]
    simp_arith
    obtain ⟨nd1, nd2, nd3⟩ := List.nodup_append.mp nd
    have last : opIx (.lst (order.map D.int ++ [D.int x])) (.int (-1)) = some (.int x) := by
      rw [show order.map D.int ++ [D.int x] = (order ++ [x]).map D.int by rw [List.map_append]; rfl, opIx_lw _ _ (by simp; omega) (by simp; omega)]
      unfold wrapD
      rw [if_pos (by decide), List.length_append, List.length_singleton, show ((-1 : Int) + ((order.length + 1 : Nat) : Int)).toNat = order.length by omega, List.getD_eq_getElem?_getD, snoc_get]
      rfl
    rw [eLc_map (ys := left) (k := D.int) (fun z => !decide (z = x)) (fun z => .int z) (lst_items rfl) (by omega)]
    · rw [show (left.filter fun z => !decide (z = x)).map (fun z => D.int z) = (left.filter fun z => !decide (z = x)).map D.int from rfl]
      simp_arith
      have hd := drop_one nd1 hx
      refine ⟨goes_nx, left.filter fun z => !decide (z = x), order ++ [x], _, ?_, by rw [List.length_append, List.length_singleton]; omega, by rw [List.length_append, List.length_singleton, hi2], fun z hz => ?_, by rw [List.map_append, show c + ((y + 1 : Nat) : Int) = c + (y : Int) + 1 by omega]; rfl, rfl⟩
      · rw [← List.append_assoc, List.nodup_append]
        refine ⟨List.nodup_append.mpr ⟨nd1.filter _, nd2, fun a ha b hb => nd3 a (List.mem_filter.mp ha).1 b hb⟩, by simp, fun a ha b hb e => ?_⟩
        rw [List.mem_singleton.mp hb] at e
        subst e
        rcases List.mem_append.mp ha with h | h
        · have := (List.mem_filter.mp h).2
          rw [decide_eq_true rfl] at this
          cases this
        · exact nd3 a hx a h rfl
      · rcases List.mem_append.mp hz with h | h
        · exact hr z (List.mem_append_left _ (List.mem_filter.mp h).1)
        · rcases List.mem_append.mp h with h | h
          · exact hr z (List.mem_append_right _ h)
          · rw [List.mem_singleton.mp h]; exact hr x (List.mem_append_left _ hx)
    · intro z hz
      exact ⟨_, rfl, by simp_arith [last], fun _ => by simp_arith⟩
  · rintro ρ m ⟨left, order, x4, nd, hlen, hi2, hr, rfl, rfl⟩
    rw [List.length_range] at hi2 ⊢
    simp_arith
    refine ⟨order, by omega, (List.nodup_append.mp nd).2.1, fun x hx => hr x (List.mem_append_right _ hx), by rw [show c + ((many.toNat : Nat) : Int) = c + many by omega]⟩
end Lw
namespace Lw
open PySem PySem.Spec L2 PL
set_option autoImplicit false
local macro_rules | `(tactic| simp_arith [$ls,*]) => `(tactic| try simp (maxSteps := 2000000) only [eV, eC, eBin, g2, eUn, eBi, eCall, aNil, aCons, sSeq, sRet, sIf, sSet, sAsg, sExp, tgName, tgTup_pair, sNil, eIf, tAndM, tOrM, tNotM, eAnd, eOr, eNot, tTrue, sFor, iRange1_bind, iSeq, eSl, oNone, oSome, opNeg_i, opSl_l, opSl_t, tOf_eq, look_d, frzE_d, frzAll, eLst, eTup, eLstO, eApp, sPutL, cellL, look, frzE, gIx_d, gIx_own, gIx_deal, dealAt, intOf, opAdd_i, opI_i, opEqA_i, opNeA_i, opEqA_b, opLen_l, opLen_t, opLen_s, opLen_d, itemsOf_l, itemsOf_t, opTuple_l, opTuple_t, opList_l, opList_t, opIx_web0, opIx_web1, opIx_ck, opIn_pair, opNotIn_pair, wipeE, fin, ck, 
  Option.bind_some, Option.bind_none, Option.bind_assoc, W_some, List.map_cons, List.map_nil, List.replicate, List.cons_append, List.nil_append, List.getElem?_cons_zero, List.getElem?_cons_succ, List.set_cons_zero, List.set_cons_succ, List.length_cons, List.length_nil, List.take_succ_cons, List.take_zero, List.take_nil, List.take_length, List.length_append, Nat.zero_add, Nat.lt_irrefl, Option.map_some, List.length_map, Int.toNat_natCast, if_true, if_false, Bool.false_eq_true, Bool.not_true, Bool.not_false, decide_true, decide_false, reduceCtorEq, lb0, lb1, lb2, lb3, lb4, lb5, lb6, lb7, lb8, lb9, lb10, lb11, lb12, lb13, lb14, lb15, lb16, lb17, $ls,*])
local macro_rules | `(tactic| simp_arith) => `(tactic| simp_arith [Option.bind_some])
/-- a list of ints, folded -/
def lsD (xs : List Int) : D := .lst (xs.map .int)
theorem ls_map (xs : List Int) : D.lst (xs.map D.int) = lsD xs := rfl
theorem ls_one (a : Int) : D.lst [.int a] = lsD [a] := rfl
theorem ls_two (a b : Int) : D.lst [.int a, .int b] = lsD [a, b] := rfl
theorem ls_three (a b c : Int) : D.lst [.int a, .int b, .int c] = lsD [a, b, c] := rfl
theorem ls_nil : D.lst [] = lsD [] := rfl
theorem opSl_ls (w : List Int) (a b : Option Int) : opSl (lsD w) a b = some (lsD (cutD w a b)) := by
  unfold lsD
  rw [← cutD_map]
  rfl
theorem opRev_ls (w : List Int) : opRev (lsD w) = some (lsD w.reverse) := by
  unfold lsD
  rw [List.map_reverse]
  rfl
theorem opAdd_ls (a b : List Int) (h : a.length + b.length ≤ 1000000) : opAdd (lsD a) (lsD b) = some (lsD (a ++ b)) := by
  unfold lsD
  rw [opAdd_ll _ _ (by rw [List.length_map, List.length_map]; exact h), List.map_append]
theorem opIx_ls (xs : List Int) (i : Int) (h0 : -(xs.length : Int) ≤ i) (h : i < xs.length) : opIx (lsD xs) (.int i) = some (.int (wrapD xs i)) := opIx_lw xs i h0 h
theorem opList_ls (xs : List Int) : opList (lsD xs) = some (lsD xs) := rfl
theorem opMul_ls3 (xs : List Int) (h : xs.length ≤ 1000) : opMulA (lsD xs) (.int 3) = some (lsD (xs ++ (xs ++ (xs ++ [])))) := by
  unfold lsD
  rw [opMulA_rep _ _ ⟨by decide, by decide, by rw [List.length_map]; unfold big; show xs.length * 3 ≤ 1000000; omega⟩]
  rw [List.map_append, List.map_append, List.map_append]
  rfl
theorem nodup_getD {xs : List Int} (h : xs.Nodup) {i j : Nat} (hi : i < xs.length) (hj : j < xs.length) (e : xs.getD i 0 = xs.getD j 0) : i = j := by
  rw [List.getD_eq_getElem?_getD, List.getElem?_eq_getElem hi, List.getD_eq_getElem?_getD, List.getElem?_eq_getElem hj] at e
  have e : xs[i] = xs[j] := e
  refine Classical.byContradiction fun z => ?_
  rw [List.nodup_iff_pairwise_ne, List.pairwise_iff_getElem] at h
  rcases Nat.lt_or_gt_of_ne z with z | z
  · exact h i j hi hj z e
  · exact h j i hj hi z e.symm
theorem wrapD_idx (xs : List Int) (i : Nat) (hi : i < xs.length) : wrapD xs i = xs.getD i 0 ∧ wrapD xs ((i : Int) - 1) = xs.getD (if i = 0 then xs.length - 1 else i - 1) 0 := by
  unfold wrapD
  rw [if_neg (by omega), Int.toNat_natCast]
  refine ⟨rfl, ?_⟩
  by_cases e : i = 0
  · rw [if_pos (by omega), if_pos e]
    congr 1
    omega
  · rw [if_neg (by omega), if_neg e]
    congr 1
    omega
def ringMs (names : List Int) : Ms := (List.range names.length).map fun (p : Nat) => both (wrapD names ((p : Int) - 1)) (wrapD names p)
theorem ring_good {n : Int} {names : List Int} (hl : (names.length : Int) = n) (h3 : 3 ≤ n) (nd : names.Nodup) (hr : ∀ x ∈ names, 0 ≤ x ∧ x < n) : Good n (ringMs names) := fun q hq => by
  unfold ringMs at hq
  obtain ⟨p, hp, rfl⟩ := List.mem_map.mp hq
  have hp := List.mem_range.mp hp
  obtain ⟨e1, e2⟩ := wrapD_idx names p hp
  rw [e1, e2]
  have hj : (if p = 0 then names.length - 1 else p - 1) < names.length := by split <;> omega
  have ne : ¬ names.getD (if p = 0 then names.length - 1 else p - 1) 0 = names.getD p 0 := fun z => by
    have := nodup_getD nd hj hp z
    split at this <;> omega
  have r1 := hr _ (getD_mem (d := 0) hj)
  have r2 := hr _ (getD_mem (d := 0) hp)
  generalize names.getD (if p = 0 then names.length - 1 else p - 1) 0 = x at *
  generalize names.getD p 0 = y at *
  unfold both
  by_cases h : x ≤ y
  · rw [if_pos h]
    exact ⟨r1.1, by show x < y; omega, r2.2⟩
  · rw [if_neg h]
    exact ⟨r2.1, by show y < x; omega, r1.2⟩
theorem turned_idx (names : List Int) (v i : Nat) (hv : v < names.length) (hi : i < names.length) : (names.drop v ++ names.take v).getD i 0 = names.getD (if i + v < names.length then i + v else i + v - names.length) 0 := by
  rw [List.getD_eq_getElem?_getD, List.getD_eq_getElem?_getD]
  by_cases h : i + v < names.length
  · rw [if_pos h, List.getElem?_append_left (by rw [List.length_drop]; omega), List.getElem?_drop, Nat.add_comm]
  · rw [if_neg h, List.getElem?_append_right (by rw [List.length_drop]; omega), List.length_drop, List.getElem?_take, if_pos (by omega), show i - (names.length - v) = i + v - names.length by omega]
theorem turned_ring {n : Int} {names : List Int} {v : Nat} (hl : (names.length : Int) = n) (h3 : 3 ≤ n) (hv : v < names.length) (ho : n % 2 = 1) : Ring (ringMs names) (names.drop v ++ names.take v) := by
  have hlen : (names.drop v ++ names.take v).length = names.length := by rw [List.length_append, List.length_drop, List.length_take]; omega
  refine ⟨by rw [hlen]; omega, by rw [hlen]; omega, fun i hi => ?_⟩
  obtain ⟨e1, e2⟩ := wrapD_idx _ i hi
  rw [hlen] at hi e2
  rw [e1, e2, turned_idx names v i hv hi, turned_idx names v (if i = 0 then names.length - 1 else i - 1) hv (by split <;> omega)]
  have hp : (if i + v < names.length then i + v else i + v - names.length) < names.length := by split <;> omega
  unfold ringMs
  refine List.mem_map.mpr ⟨_, List.mem_range.mpr hp, ?_⟩
  obtain ⟨f1, f2⟩ := wrapD_idx names _ hp
  rw [f1, f2]
  congr 2
  split <;> split <;> split <;> split <;> omega
end Lw
namespace Lw
open PySem PySem.Spec L2 PL
set_option autoImplicit false
local macro_rules | `(tactic| simp_arith [$ls,*]) => `(tactic| try simp (maxSteps := 2000000) only [eV, eC, eBin, g2, eUn, eBi, eCall, aNil, aCons, sSeq, sRet, sIf, sSet, sAsg, sExp, tgName, tgTup_pair, sNil, eIf, tAndM, tOrM, tNotM, eAnd, eOr, eNot, tTrue, sFor, iRange1_bind, iSeq, eSl, oNone, oSome, opNeg_i, opSl_l, opSl_t, tOf_eq, look_d, frzE_d, frzAll, eLst, eTup, eLstO, eApp, sPutL, cellL, look, frzE, gIx_d, gIx_own, gIx_deal, dealAt, intOf, opAdd_i, opI_i, opEqA_i, opNeA_i, opEqA_b, opLen_l, opLen_t, opLen_s, opLen_d, itemsOf_l, itemsOf_t, opTuple_l, opTuple_t, opList_l, opList_t, opIx_web0, opIx_web1, opIx_ck, opIn_pair, opNotIn_pair, wipeE, fin, ck, 
  Option.bind_some, Option.bind_none, Option.bind_assoc, W_some, List.map_cons, List.map_nil, List.replicate, List.cons_append, List.nil_append, List.getElem?_cons_zero, List.getElem?_cons_succ, List.set_cons_zero, List.set_cons_succ, List.length_cons, List.length_nil, List.take_succ_cons, List.take_zero, List.take_nil, List.take_length, List.length_append, Nat.zero_add, Nat.lt_irrefl, Option.map_some, List.length_map, Int.toNat_natCast, if_true, if_false, Bool.false_eq_true, Bool.not_true, Bool.not_false, decide_true, decide_false, reduceCtorEq, lb0, lb1, lb2, lb3, lb4, lb5, lb6, lb7, lb8, lb9, lb10, lb11, lb12, lb13, lb14, lb15, lb16, lb17, $ls,*])
local macro_rules | `(tactic| simp_arith) => `(tactic| simp_arith [Option.bind_some])
theorem law_rings_spec {row : List Int} {t c : Int} (h0 : 0 ≤ c) (h1 : c ≤ 800000) : W (m__law_rings [dl row t] [ck c]) fun p => ∃ c' : Int, c ≤ c' ∧ c' ≤ c + 100 ∧ p = (.d (.bl true), [ck c']) := by
  unfold m__law_rings
  refine W.body rfl ?_
  unfold b__law_rings
  refine W.setW (fun p => ∃ n : Int, 3 ≤ n ∧ n ≤ 8 ∧ p = (.d (.int n), [ck (c + 1)])) ?_ ?_
  · simp_arith
    refine W.step (take_spec (by omega) (by omega) (by omega)) ?_
    rintro _ ⟨nn, nn0, nn1, rfl⟩
    simp_arith
    exact ⟨_, by omega, by omega, rfl⟩
  rintro _ _ ⟨n, n3, n8, e⟩
  cases e
  refine W.setW (fun p => ∃ names : List Int, (names.length : Int) = n ∧ names.Nodup ∧ (∀ x ∈ names, 0 ≤ x ∧ x < n) ∧ p = (.d (lsD names), [ck (c + 1 + n)])) ?_ ?_
  · simp_arith
    refine W.bnd (W.step (law_order_spec (by omega) (by omega) (by omega) (by omega)) ?_)
    rintro _ ⟨names, hnl, nd, hr, rfl⟩
    exact W_some.mpr ⟨names, hnl, nd, hr, rfl⟩
  rintro _ _ ⟨names, hnl, nd, hr, e⟩
  cases e
  have hwrap : ∀ p : Nat, p < names.length → ∀ i : Int, i = p ∨ i = (p : Int) - 1 → opIx (lsD names) (.int i) = some (.int (wrapD names i)) := fun p hp i hi => opIx_ls names i (by omega) (by omega)
  have web_fold : ∀ (n : Int) (l : Ms), D.tup [.int n, .tup (l.map pairD)] = webD n l := fun _ _ => rfl
  refine W.setE (.d (webD n (ringMs names))) (m' := [ck (c + 1 + n)]) ?_ ?_
  · simp_arith
    rw [eLc_all (ys := List.range n.toNat) (k := fun (i : Nat) => D.int (i : Int)) (fun (p : Nat) => pairD (both (wrapD names ((p : Int) - 1)) (wrapD names p))) (rng (n := n.toNat) (by simp_arith; rw [Int.toNat_of_nonneg (by omega)]) (by omega)) (by simp; omega)]
    · rw [show (List.range n.toNat).map (fun (p : Nat) => pairD (both (wrapD names ((p : Int) - 1)) (wrapD names p))) = (ringMs names).map pairD by unfold ringMs; rw [List.map_map, show n.toNat = names.length by omega]; rfl]
      simp_arith [web_fold]
    · intro p hp
      have hp := List.mem_range.mp hp
      refine ⟨_, rfl, ?_⟩
      simp_arith [hwrap p (by omega) p (.inl rfl), hwrap p (by omega) ((p : Int) - 1) (.inr rfl)]
      unfold both pairD
      by_cases hle : wrapD names ((p : Int) - 1) ≤ wrapD names p
      · rw [if_pos hle, if_neg (by omega)]
        by_cases heq : wrapD names ((p : Int) - 1) = wrapD names p
        · rw [heq, if_neg (by omega)]
        · rw [if_pos (by omega)]
      · rw [if_neg hle, if_pos (by omega), if_neg (by omega)]
  refine W.setW (fun p => ∃ v : Int, 0 ≤ v ∧ v < n ∧ p = (.d (.int v), [ck (c + 1 + n + 1)])) ?_ ?_
  · simp_arith
    refine W.bnd (W.step (take_spec (by omega) (by omega) (by omega)) ?_)
    rintro _ ⟨v, v0, v1, rfl⟩
    exact W_some.mpr ⟨v, v0, v1, rfl⟩
  rintro _ _ ⟨v, v0, v1, e⟩
  cases e
  have l1 := cutD_len names (some v) none
  have l2 := cutD_len names none (some v)
  obtain ⟨T, eT⟩ : ∃ T : List Int, cutD names (some v) none ++ cutD names none (some v) = T := ⟨_, rfl⟩
  have eT2 : T = names.drop v.toNat ++ names.take v.toNat := by rw [← eT, cutD_from _ _ v0, cutD_to _ _ v0]
  have hTl : T.length = names.length := by rw [eT2, List.length_append, List.length_drop, List.length_take]; omega
  have l3 := cutD_len names none (some (-1))
  have l4 := cutD_len names none (some 1)
  have l5 := cutD_len T none (some 1)
  have l6 := cutD_len T (some 2) none
  have l7 := cutD_len T (some 1) none
  have l8 := cutD_len T none (some 2)
  have hN : 3 ≤ names.length ∧ names.length ≤ 8 := by omega
  have add : ∀ a b : List Int, a.length ≤ 40 → b.length ≤ 40 → opAdd (lsD a) (lsD b) = some (lsD (a ++ b)) := fun a b h1 h2 => opAdd_ls a b (by omega)
  have hN : 3 ≤ names.length ∧ names.length ≤ 8 := by omega
  have add : ∀ a b : List Int, a.length ≤ 40 → b.length ≤ 40 → opAdd (lsD a) (lsD b) = some (lsD (a ++ b)) := fun a b h1 h2 => opAdd_ls a b (by omega)
  refine W.setE (.d (lsD T)) (m' := [ck (c + 1 + n + 1)]) ?_ ?_
  · simp_arith [opSl_ls, add (cutD names (some v) none) (cutD names none (some v)) (by omega) (by omega), eT]
  refine W.setE (.d (.lst ([names, T, names.reverse, cutD names none (some (-1)), names ++ cutD names none (some 1), names ++ names, names ++ names ++ names, [], cutD names none (some 1)].map lsD))) (m' := [ck (c + 1 + n + 1)]) ?_ ?_
  · simp_arith [opSl_ls, opRev_ls, add names (cutD names none (some 1)) (by omega) (by omega), add names names (by omega) (by omega), add (names ++ names) names (by simp; omega) (by omega), ls_nil]
  refine W.setE (.d (.lst (([names, T, names.reverse, cutD names none (some (-1)), names ++ cutD names none (some 1), names ++ names, names ++ names ++ names, [], cutD names none (some 1)] ++ [names ++ [wrapD names 0, wrapD names 1], [wrapD names 0, wrapD names 1, wrapD names 0], names ++ [wrapD names (-1), wrapD names 0], cutD names none (some 1) ++ (cutD names none (some 1) ++ (cutD names none (some 1) ++ []))]).map lsD))) (m' := [ck (c + 1 + n + 1)]) ?_ ?_
  · simp_arith [opSl_ls, opIx_ls names 0 (by omega) (by omega), opIx_ls names 1 (by omega) (by omega), opIx_ls names (-1) (by omega) (by omega), ls_one, ls_two, ls_three, add names [wrapD names 0, wrapD names 1] (by omega) (by simp), add names [wrapD names (-1), wrapD names 0] (by omega) (by simp), opMul_ls3 (cutD names none (some 1)) (by omega)]
    rw [opAdd_ll _ _ (by simp)]
    rfl
  refine W.setE (.d (.lst ((([names, T, names.reverse, cutD names none (some (-1)), names ++ cutD names none (some 1), names ++ names, names ++ names ++ names, [], cutD names none (some 1)] ++ [names ++ [wrapD names 0, wrapD names 1], [wrapD names 0, wrapD names 1, wrapD names 0], names ++ [wrapD names (-1), wrapD names 0], cutD names none (some 1) ++ (cutD names none (some 1) ++ (cutD names none (some 1) ++ []))]) ++ [cutD T none (some 1) ++ [n] ++ cutD T (some 2) none, [-1] ++ cutD T (some 1) none, cutD T none (some 2) ++ cutD T (some 1) none, [wrapD T 1, wrapD T 0] ++ cutD T (some 2) none]).map lsD))) (m' := [ck (c + 1 + n + 1)]) ?_ ?_
  · simp_arith [opSl_ls, opIx_ls T 0 (by omega) (by omega), opIx_ls T 1 (by omega) (by omega), ls_one, ls_two, add (cutD T none (some 1)) [n] (by omega) (by simp), add (cutD T none (some 1) ++ [n]) (cutD T (some 2) none) (by simp; omega) (by omega), add [-1] (cutD T (some 1) none) (by simp) (by omega), add (cutD T none (some 2)) (cutD T (some 1) none) (by omega) (by omega), add [wrapD T 1, wrapD T 0] (cutD T (some 2) none) (by simp) (by omega)]
    rw [opAdd_ll _ _ (by simp)]
    rfl
  generalize hrows : (([names, T, names.reverse, cutD names none (some (-1)), names ++ cutD names none (some 1), names ++ names, names ++ names ++ names, [], cutD names none (some 1)] ++ [names ++ [wrapD names 0, wrapD names 1], [wrapD names 0, wrapD names 1, wrapD names 0], names ++ [wrapD names (-1), wrapD names 0], cutD names none (some 1) ++ (cutD names none (some 1) ++ (cutD names none (some 1) ++ []))]) ++ [cutD T none (some 1) ++ [n] ++ cutD T (some 2) none, [-1] ++ cutD T (some 1) none, cutD T none (some 2) ++ cutD T (some 1) none, [wrapD T 1, wrapD T 0] ++ cutD T (some 2) none]) = rows
  have hrl : ∀ ps ∈ rows, ps.length ≤ 100 := fun ps this => by
    rw [← hrows] at this
    simp only [List.mem_append, List.mem_cons, List.not_mem_nil, or_false] at this
    rcases this with ((rfl | rfl | rfl | rfl | rfl | rfl | rfl | rfl | rfl) | (rfl | rfl | rfl | rfl)) | (rfl | rfl | rfl | rfl) <;> (try simp) <;> omega
  have hg := ring_good hnl (by omega) nd hr
  have hml : (ringMs names).length ≤ 100 := by unfold ringMs; simp; omega
  have j1 : ∀ (ps : List Int) (m : Store), ps.length ≤ 100 → m_shows_ring [.d (webD n (ringMs names)), .d (lsD ps)] m = some (.d (.bl (tr (Ring (ringMs names) ps))), m) := fun ps m h => shows_ring_eq n _ ps m (by omega) (by omega)
  have j2 : ∀ (ps : List Int) (m : Store), ps.length ≤ 100 → m__law_ring [.d (webD n (ringMs names)), .d (lsD ps)] m = some (.d (.bl (tr (Ring (ringMs names) ps))), m) := fun ps m h => law_ring_eq n _ ps m (by omega) (by omega) hg
  simp_arith
  refine W.loop (fun i ρ m => m = [ck (c + 1 + n + 1)] ∧ ∃ x6 x7, ρ = [some (dl row t), some (.d (.int n)), some (.d (lsD names)), some (.d (webD n (ringMs names))), some (.d (.int v)), some (.d (lsD T)), x6, x7, none]) ⟨rfl, _, _, rfl⟩ ?_ ?_
  · rintro j ps hj ρ m ⟨rfl, x6, x7, rfl⟩
    have hpl := hrl ps (List.mem_of_getElem? hj)
    refine ⟨_, rfl, ?_⟩
    simp_arith [opList_ls, j1 ps _ hpl, j2 ps _ hpl, law_bool_eq]
    exact ⟨goes_nx, by trivial, _, _, rfl⟩
  · rintro ρ m ⟨rfl, x6, x7, rfl⟩
    have e : tr (Ring (ringMs names) T) = decide (n % 2 = 1) := by
      rw [decide_tr]
      refine tr_congr ⟨fun z => by have := z.2.1; omega, fun z => ?_⟩
      rw [eT2]
      exact turned_ring hnl (by omega) (by omega) z
    simp_arith [opList_ls, j1 T _ (by omega)]
    refine W.pos (by decide) ?_
    simp_arith [law_bool_eq]
    rw [e, decide_eq_true rfl]
    exact ⟨c + 1 + n + 1, by omega, by omega, rfl⟩
end Lw
namespace Lw
open PySem PySem.Spec L2 PL
set_option autoImplicit false
local macro_rules | `(tactic| simp_arith [$ls,*]) => `(tactic| try simp (maxSteps := 2000000) only [eV, eC, eBin, g2, eUn, eBi, eCall, aNil, aCons, sSeq, sRet, sIf, sSet, sAsg, sExp, tgName, tgTup_pair, sNil, eIf, tAndM, tOrM, tNotM, eAnd, eOr, eNot, tTrue, sFor, iRange1_bind, iSeq, eSl, oNone, oSome, opNeg_i, opSl_l, opSl_t, tOf_eq, look_d, frzE_d, frzAll, eLst, eTup, eLstO, eApp, sPutL, cellL, look, frzE, gIx_d, gIx_own, gIx_deal, dealAt, intOf, opAdd_i, opI_i, opEqA_i, opNeA_i, opEqA_b, opLen_l, opLen_t, opLen_s, opLen_d, itemsOf_l, itemsOf_t, opTuple_l, opTuple_t, opList_l, opList_t, opIx_web0, opIx_web1, opIx_ck, opIn_pair, opNotIn_pair, wipeE, fin, ck, 
  Option.bind_some, Option.bind_none, Option.bind_assoc, W_some, List.map_cons, List.map_nil, List.replicate, List.cons_append, List.nil_append, List.getElem?_cons_zero, List.getElem?_cons_succ, List.set_cons_zero, List.set_cons_succ, List.length_cons, List.length_nil, List.take_succ_cons, List.take_zero, List.take_nil, List.take_length, List.length_append, Nat.zero_add, Nat.lt_irrefl, Option.map_some, List.length_map, Int.toNat_natCast, if_true, if_false, Bool.false_eq_true, Bool.not_true, Bool.not_false, decide_true, decide_false, reduceCtorEq, lb0, lb1, lb2, lb3, lb4, lb5, lb6, lb7, lb8, lb9, lb10, lb11, lb12, lb13, lb14, lb15, lb16, lb17, $ls,*])
local macro_rules | `(tactic| simp_arith) => `(tactic| simp_arith [Option.bind_some])
theorem opSum_p (xs : List Int) : opSum (planD xs) = some (.int xs.sum) := by
  show (intsOf (xs.map .int)).map _ = _
  rw [intsOf_map]
  rfl
def prices (ms : Ms) (paper : List Int) : List Int := ms.map fun q => paper.getD q.1.toNat 0 + paper.getD q.2.toNat 0
def Shares (n : Int) (ms : Ms) (pr' : List Int) (w : Int) (r : List Int) : Prop := ((r.length : Int) = n ∧ (∀ x ∈ r, ¬ x < 0) ∧ r.sum ≤ w) ∧ ∀ i : Nat, i < pr'.length → ¬ r.getD (pr ms i).1.toNat 0 + r.getD (pr ms i).2.toNat 0 < pr'.getD i 0
theorem shows_shares_eq (n : Int) (ms : Ms) (ps : List Int) (w : Int) (r : List Int) (m : Store) (hl : ms.length ≤ 1000) (hp : ps.length = ms.length) (hr : r.length ≤ 1000) (hg : Good n ms) : m_shows_shares [.d (webD n ms), .d (planD ps), .d (.int w), .d (planD r)] m = some (.d (.bl (tr (Shares n ms ps w r))), m) := by
  refine W.toEq ?_
  unfold m_shows_shares
  rw [fnD_eq 4 2 b_shows_shares _ m rfl]
  unfold b_shows_shares
  simp_arith [opLen_p]
  by_cases c1 : (r.length : Int) = n
  · rw [decide_eq_true c1]
    simp_arith
    rw [eLc_map (ys := r) (k := D.int) (fun x => decide (x < 0)) (fun _ => .int 1) (tup_items rfl) (by omega)]
    · simp_arith
      rw [count_pos_tr (P := ∀ x ∈ r, ¬ x < 0) ⟨fun z x hx => decide_eq_false (z x hx), fun z x hx => of_decide_eq_false (z x hx)⟩]
      by_cases c2 : ∀ x ∈ r, ¬ x < 0
      · rw [tr_true c2]
        simp_arith [opSum_p]
        by_cases c3 : w < r.sum
        · rw [decide_eq_true c3]
          simp_arith
          rw [tr_false fun z => by have := z.1.2.2; omega]
        · rw [decide_eq_false c3]
          simp_arith
          rw [eLc_map (ys := List.range ps.length) (k := fun (i : Nat) => D.int (i : Int)) (fun i => decide (r.getD (pr ms i).1.toNat 0 + r.getD (pr ms i).2.toNat 0 < ps.getD i 0)) (fun _ => .int 1) (rng (by simp_arith [opLen_p]) (by omega)) (by simp; omega)]
          · simp_arith
            rw [count_tr (P := Shares n ms ps w r) ⟨fun z i hi => decide_eq_false (z.2 i (List.mem_range.mp hi)), fun z => ⟨⟨c1, c2, by omega⟩, fun i hi => of_decide_eq_false (z i (List.mem_range.mpr hi))⟩⟩]
          · intro i hi
            have hi := List.mem_range.mp hi
            have hgq := hg _ (pr_mem (ms := ms) (i := i) (by omega))
            refine ⟨_, rfl, ?_, fun _ => by simp_arith⟩
            simp_arith [opIx_ms ms i (by omega) (by omega), opIx_pair0, opIx_pair1, opIx_p r (pr ms i).1 hgq.1 (by omega), opIx_p r (pr ms i).2 (by omega) (by omega), opIx_p ps i (by omega) (by omega)]
      · rw [tr_false c2]
        simp_arith
        rw [tr_false fun z => c2 z.1.2.1]
    · intro x hx
      exact ⟨_, rfl, by simp_arith, fun _ => by simp_arith⟩
  · rw [decide_eq_false c1]
    simp_arith
    rw [tr_false fun z => c1 z.1.1]
theorem tgTup_web (i j : Nat) (n : Int) (ms : Ms) (ρ : Rho) : tgTup [i, j] (.d (webD n ms)) ρ = some ((ρ.set i (some (.d (.int n)))).set j (some (.d (.tup (ms.map pairD))))) := rfl
theorem prices_getD (ms : Ms) (paper : List Int) {i : Nat} (h : i < ms.length) : (prices ms paper).getD i 0 = paper.getD (pr ms i).1.toNat 0 + paper.getD (pr ms i).2.toNat 0 := by
  unfold prices pr
  rw [List.getD_eq_getElem?_getD, List.getElem?_map, List.getElem?_eq_getElem h, List.getD_eq_getElem?_getD (l := ms), List.getElem?_eq_getElem h]
  rfl
theorem law_shares_spec {row : List Int} {t c : Int} (h0 : 0 ≤ c) (h1 : c ≤ 800000) : W (m__law_shares [dl row t] [ck c]) fun p => ∃ c' : Int, c ≤ c' ∧ c' ≤ c + 1000 ∧ p = (.d (.bl true), [ck c']) := by
  unfold m__law_shares
  refine W.body rfl ?_
  unfold b__law_shares
  have web_fold : ∀ (n : Int) (l : Ms), D.tup [.int n, .tup (l.map pairD)] = webD n l := fun _ _ => rfl
  refine W.asg (fun p => ∃ (n : Int) (ms : Ms) (c1 : Int), WebOk 7 n ms ∧ c ≤ c1 ∧ c1 ≤ c + 300 ∧ p = (.d (webD n ms), [ck c1])) ?_ ?_
  · simp_arith
    exact W.bnd (W.step (sided_spec (by omega) (by omega) (by omega) (by omega) (by omega) (by omega)) fun a h => W_some.mpr h)
  rintro _ _ ⟨n, ms, c1, hw, hc0, hc1, e⟩
  cases e
  obtain ⟨hn0, hn1, hml, hg⟩ := hw
  refine ⟨_, tgTup_web 1 2 n ms _, ?_⟩
  refine W.setE (.d (webD (n + 1) ms)) (m' := [ck c1]) ?_ ?_
  · simp_arith [web_fold]
  refine W.setW (fun p => ∃ (P : List Int) (c' : Int), (P.length : Int) = n + 1 ∧ (∀ x ∈ P, ¬ x < 0) ∧ c' = c1 + n ∧ p = (.d (planD P), [ck c'])) ?_ ?_
  · simp_arith
    rw [eLc_bind]
    simp_arith
    refine W.rg ⟨by omega, by omega⟩ ?_
    simp_arith
    refine W.lc (fun i ds m => ∃ (xs : List Int) (c' : Int), ds = xs.map .int ∧ m = [ck c'] ∧ xs.length = i ∧ c' = c1 + i ∧ ∀ x ∈ xs, 0 ≤ x) ⟨[], _, rfl, rfl, rfl, by omega, (fun _ h => nomatch h)⟩ ?_ ?_
    · rintro i y hy ds m ⟨xs, c', rfl, rfl, hx, hc, hpos⟩
      obtain ⟨hi, rfl⟩ := getElem?_range hy
      refine ⟨_, rfl, ?_⟩
      simp_arith
      refine ⟨fun _ => ?_, fun z => z.elim⟩
      refine W.bnd (W.step (take_spec (by omega) (by omega) (by omega)) ?_)
      rintro _ ⟨v, v0, v1, rfl⟩
      simp_arith
      refine ⟨xs ++ [v], _, by rw [List.map_append]; rfl, rfl, by simp; omega, by omega, fun x hx => ?_⟩
      rcases List.mem_append.mp hx with h | h
      · exact hpos x h
      · rw [List.mem_singleton.mp h]; exact v0
    · rintro ds m ⟨xs, c', rfl, rfl, hx, hc, hpos⟩
      rw [List.length_range] at hx hc
      simp_arith
      refine W.pos (by rw [hx]; unfold big; omega) ?_
      simp_arith
      rw [opAdd_ll _ _ (by simp; omega), show xs.map D.int ++ [D.int 0] = (xs ++ [0]).map D.int by rw [List.map_append]; rfl]
      simp_arith [opTuple_li, tup_p]
      refine ⟨xs ++ [0], c', by simp; omega, fun x hx => ?_, by omega, rfl⟩
      rcases List.mem_append.mp hx with h | h
      · have := hpos x h; omega
      · rw [List.mem_singleton.mp h]; decide
  rintro _ _ ⟨P, c', hPl, hP0, hc', e⟩
  cases e
  refine W.setE (.d (planD (prices ms P))) (m' := [ck c']) ?_ ?_
  · simp_arith
    rw [eLc_all (ys := ms) (k := pairD) (fun q => .int (P.getD q.1.toNat 0 + P.getD q.2.toNat 0)) (iSeq_eq (d := .tup (ms.map pairD)) (by simp_arith) rfl) (by omega)]
    · rw [show ms.map (fun q => D.int (P.getD q.1.toNat 0 + P.getD q.2.toNat 0)) = (prices ms P).map D.int by unfold prices; rw [List.map_map]; rfl]
      simp_arith [opTuple_li, tup_p]
    · intro q hq
      have hgq := hg q hq
      refine ⟨_, rfl, ?_⟩
      simp_arith [opIx_p P q.1 hgq.1 (by omega), opIx_p P q.2 (by omega) (by omega)]
  refine W.setE (.d (.int P.sum)) (m' := [ck c']) ?_ ?_
  · simp_arith [opSum_p]
  have add : ∀ a b : List Int, a.length ≤ 40 → b.length ≤ 40 → opAdd (planD a) (planD b) = some (planD (a ++ b)) := fun a b h1 h2 => opAdd_pp a b (by omega)
  have l1 := cutD_len P (some 1) none
  have l2 := cutD_len P none (some n)
  have zeros : opMulA (.lst [.int 0]) (.int (n + 1)) = some (.lst ((List.replicate P.length (0 : Int)).map .int)) := by
    rw [← hPl]
    exact opMul_zeros P.length (by omega)
  refine W.setE (.d (.lst ([P, cutD P (some 1) none, P ++ [0], cutD P none (some n) ++ [-1], cutD P none (some n) ++ [1], List.replicate P.length 0].map planD))) (m' := [ck c']) ?_ ?_
  · simp_arith [opTuple_li, tup_p, opSl_p, one_p, zeros, add P [0] (by omega) (by simp), add (cutD P none (some n)) [-1] (by omega) (by simp), add (cutD P none (some n)) [1] (by omega) (by simp)]
  refine W.seqP (fun ρ m => m = [ck c'] ∧ ∃ (rows : List (List Int)) (x4 : Option E), (∀ r ∈ rows, r.length ≤ 40) ∧ rows.length ≤ 40 ∧ ρ = [some (dl row t), some (.d (.int n)), some (.d (.tup (ms.map pairD))), some (.d (webD (n + 1) ms)), x4, some (.d (planD P)), some (.d (planD (prices ms P))), some (.d (.int P.sum)), some (.d (.lst (rows.map planD))), none, none, none, none, none, none, none]) ?_ ?_
  simp_arith
  refine W.rg ⟨by omega, by omega⟩ ?_
  simp_arith
  refine W.bnd (W.loop (fun i ρ m => m = [ck c'] ∧ ∃ (rows : List (List Int)) (x4 : Option E), (∀ r ∈ rows, r.length ≤ 40) ∧ rows.length ≤ 6 + 2 * i ∧ ρ = [some (dl row t), some (.d (.int n)), some (.d (.tup (ms.map pairD))), some (.d (webD (n + 1) ms)), x4, some (.d (planD P)), some (.d (planD (prices ms P))), some (.d (.int P.sum)), some (.d (.lst (rows.map planD))), none, none, none, none, none, none, none]) ⟨rfl, [P, cutD P (some 1) none, P ++ [0], cutD P none (some n) ++ [-1], cutD P none (some n) ++ [1], List.replicate P.length 0], _, fun r hr => ?_, by simp, rfl⟩ ?_ ?_)
  · simp only [List.mem_cons, List.not_mem_nil, or_false] at hr
    rcases hr with rfl | rfl | rfl | rfl | rfl | rfl <;> (try simp) <;> omega
  · rintro i y hy ρ m ⟨rfl, rows, x4, hr, hrl, rfl⟩
    obtain ⟨hi, rfl⟩ := getElem?_range hy
    have k1 := cutD_len P none (some (y : Int))
    have k2 := cutD_len P (some ((y : Int) + 1)) none
    have k3 := cutD_len P (some ((y : Int) + 1)) (some n)
    refine ⟨_, rfl, ?_⟩
    simp_arith [opSl_p, one_p, opIx_p P y (by omega) (by omega), add (cutD P none (some (y : Int))) [P.getD y 0 - 1] (by omega) (by simp), add (cutD P none (some (y : Int)) ++ [P.getD y 0 - 1]) (cutD P (some ((y : Int) + 1)) none) (by simp; omega) (by omega), add (cutD P none (some (y : Int))) [P.getD y 0 + 1] (by omega) (by simp), add (cutD P none (some (y : Int)) ++ [P.getD y 0 + 1]) (cutD P (some ((y : Int) + 1)) (some n)) (by simp; omega) (by omega), add (cutD P none (some (y : Int)) ++ [P.getD y 0 + 1] ++ cutD P (some ((y : Int) + 1)) (some n)) [-1] (by simp; omega) (by simp)]
    rw [opAdd_ll _ _ (by simp; omega), show ∀ (a b : List Int), rows.map planD ++ [planD a, planD b] = (rows ++ [a, b]).map planD from fun a b => by rw [List.map_append]; rfl]
    simp_arith
    refine ⟨goes_nx, by trivial, _, _, fun r hr2 => ?_, ?_, rfl⟩
    · rcases List.mem_append.mp hr2 with h | h
      · exact hr r h
      · simp only [List.mem_cons, List.not_mem_nil, or_false] at h
        rcases h with rfl | rfl <;> simp <;> omega
    · rw [List.length_append]
      simp
      omega
  · rintro ρ m ⟨rfl, rows, x4, hr, hrl, rfl⟩
    rw [List.length_range] at hrl
    exact W_some.mpr ⟨rfl, rfl, rows, x4, hr, by omega, rfl⟩
  · rintro ρ m ⟨rfl, rows, x4, hr, hrl, rfl⟩
    have hprl : (prices ms P).length = ms.length := by unfold prices; simp
    have judge : ∀ (w : Int) (r : List Int) (m : Store), r.length ≤ 40 → m_shows_shares [.d (webD (n + 1) ms), .d (planD (prices ms P)), .d (.int w), .d (planD r)] m = some (.d (.bl (tr (Shares (n + 1) ms (prices ms P) w r))), m) := fun w r m h => shows_shares_eq (n + 1) ms _ w r m (by omega) hprl (by omega) fun q hq => by have := hg q hq; omega
    refine W.seqP (fun ρ m => m = [ck c'] ∧ ∃ (x4 x9 x10 x11 : Option E), ρ = [some (dl row t), some (.d (.int n)), some (.d (.tup (ms.map pairD))), some (.d (webD (n + 1) ms)), x4, some (.d (planD P)), some (.d (planD (prices ms P))), some (.d (.int P.sum)), some (.d (.lst (rows.map planD))), x9, x10, x11, none, none, none, none]) ?_ ?_
    simp_arith
    refine W.bnd (W.loop (fun i ρ m => m = [ck c'] ∧ ∃ (x4 x9 x10 x11 : Option E), ρ = [some (dl row t), some (.d (.int n)), some (.d (.tup (ms.map pairD))), some (.d (webD (n + 1) ms)), x4, some (.d (planD P)), some (.d (planD (prices ms P))), some (.d (.int P.sum)), some (.d (.lst (rows.map planD))), x9, x10, x11, none, none, none, none]) ⟨rfl, _, _, _, _, rfl⟩ ?_ ?_)
    · rintro i r hir ρ m ⟨rfl, x4, x9, x10, x11, rfl⟩
      have hrl2 := hr r (List.mem_of_getElem? hir)
      refine ⟨_, rfl, ?_⟩
      simp_arith
      refine W.bnd (W.loopE D.int [P.sum - 1, P.sum, P.sum + 1] (by rfl) (fun i ρ m => m = [ck c'] ∧ ∃ (x10 x11 : Option E), ρ = [some (dl row t), some (.d (.int n)), some (.d (.tup (ms.map pairD))), some (.d (webD (n + 1) ms)), x4, some (.d (planD P)), some (.d (planD (prices ms P))), some (.d (.int P.sum)), some (.d (.lst (rows.map planD))), some (.d (planD r)), x10, x11, none, none, none, none]) ⟨rfl, _, _, rfl⟩ ?_ ?_)
      · rintro j w hj ρ m ⟨rfl, x10, x11, rfl⟩
        refine ⟨_, rfl, ?_⟩
        refine W.setE (.d (.bl (tr ((r.length : Int) = n + 1 ∧ (∀ x ∈ r, ¬ x < 0) ∧ r.sum ≤ w)))) (m' := [ck c']) ?_ ?_
        · simp_arith [opLen_p]
          by_cases d1 : (r.length : Int) = n + 1
          · rw [decide_eq_true d1]
            simp_arith
            rw [eLc_map (ys := r) (k := D.int) (fun x => decide (x < 0)) (fun _ => .int 1) (tup_items rfl) (by omega)]
            · simp_arith
              rw [count_tr (P := ∀ x ∈ r, ¬ x < 0) ⟨fun z x hx => decide_eq_false (z x hx), fun z x hx => of_decide_eq_false (z x hx)⟩]
              by_cases d2 : ∀ x ∈ r, ¬ x < 0
              · rw [tr_true d2]
                simp_arith [opSum_p]
                rw [decide_tr, tr_congr (q := (r.length : Int) = n + 1 ∧ (∀ x ∈ r, ¬ x < 0) ∧ r.sum ≤ w) ⟨fun z => ⟨d1, d2, z⟩, fun z => z.2.2⟩]
              · rw [tr_false d2]
                simp_arith
                rw [tr_false fun z => d2 z.2.1]
            · intro x hx
              exact ⟨_, rfl, by simp_arith, fun _ => by simp_arith⟩
          · rw [decide_eq_false d1]
            simp_arith
            rw [tr_false fun z => d1 z.1]
        refine W.setE (.d (.bl (tr (Shares (n + 1) ms (prices ms P) w r)))) (m' := [ck c']) ?_ ?_
        · simp_arith
          by_cases d : (r.length : Int) = n + 1 ∧ (∀ x ∈ r, ¬ x < 0) ∧ r.sum ≤ w
          · rw [tr_true d]
            simp_arith
            rw [eLc_map (ys := List.range ms.length) (k := fun (i : Nat) => D.int (i : Int)) (fun i => decide (r.getD (pr ms i).1.toNat 0 + r.getD (pr ms i).2.toNat 0 < (prices ms P).getD i 0)) (fun _ => .int 1) (rng (by simp_arith) (by omega)) (by simp; omega)]
            · simp_arith
              rw [count_tr (P := Shares (n + 1) ms (prices ms P) w r) ⟨fun z i hi => decide_eq_false (z.2 i (by rw [hprl]; exact List.mem_range.mp hi)), fun z => ⟨d, fun i hi => of_decide_eq_false (z i (List.mem_range.mpr (by rw [← hprl]; exact hi)))⟩⟩]
            · intro i hi
              have hi := List.mem_range.mp hi
              have hgq := hg _ (pr_mem (ms := ms) (i := i) (by omega))
              refine ⟨_, rfl, ?_, fun _ => by simp_arith⟩
              simp_arith [opIx_ms ms i (by omega) (by omega), opIx_pair0, opIx_pair1, opIx_p r (pr ms i).1 hgq.1 (by omega), opIx_p r (pr ms i).2 (by omega) (by omega), opIx_p (prices ms P) i (by omega) (by omega)]
          · rw [tr_false d]
            simp_arith
            rw [tr_false fun z => d z.1]
        simp_arith [judge w r _ hrl2, law_bool_eq]
        exact ⟨goes_nx, by trivial, _, _, rfl⟩
      · rintro ρ m ⟨rfl, x10, x11, rfl⟩
        simp_arith
        exact ⟨goes_nx, by trivial, _, _, _, _, rfl⟩
    · rintro ρ m ⟨rfl, x4, x9, x10, x11, rfl⟩
      exact W_some.mpr ⟨rfl, rfl, _, _, _, _, rfl⟩
    · rintro ρ m ⟨rfl, x4, x9, x10, x11, rfl⟩
      have full : ∀ i : Nat, i < (prices ms P).length → ¬ P.getD (pr ms i).1.toNat 0 + P.getD (pr ms i).2.toNat 0 < (prices ms P).getD i 0 := fun i hi => by
        rw [prices_getD ms P (by rw [← hprl]; exact hi)]
        omega
      simp_arith [judge P.sum P _ (by omega), judge (P.sum - 1) P _ (by omega), law_bool_eq]
      rw [tr_true (p := Shares (n + 1) ms (prices ms P) P.sum P) ⟨⟨hPl, hP0, Int.le_refl _⟩, full⟩, tr_false (p := Shares (n + 1) ms (prices ms P) (P.sum - 1) P) fun z => by have := z.1.2.2; omega]
      simp_arith
      exact ⟨c', by omega, by omega, rfl⟩
end Lw
namespace Lw
open PySem PySem.Spec L2 PL
set_option autoImplicit false
local macro_rules | `(tactic| simp_arith [$ls,*]) => `(tactic| try simp (maxSteps := 2000000) only [eV, eC, eBin, g2, eUn, eBi, eCall, aNil, aCons, sSeq, sRet, sIf, sSet, sAsg, sExp, tgName, tgTup_pair, sNil, eIf, tAndM, tOrM, tNotM, eAnd, eOr, eNot, tTrue, sFor, iRange1_bind, iSeq, eSl, oNone, oSome, opNeg_i, opSl_l, opSl_t, tOf_eq, look_d, frzE_d, frzAll, eLst, eTup, eLstO, eApp, sPutL, cellL, look, frzE, gIx_d, gIx_own, gIx_deal, dealAt, intOf, opAdd_i, opI_i, opEqA_i, opNeA_i, opEqA_b, opLen_l, opLen_t, opLen_s, opLen_d, itemsOf_l, itemsOf_t, opTuple_l, opTuple_t, opList_l, opList_t, opIx_web0, opIx_web1, opIx_ck, opIn_pair, opNotIn_pair, wipeE, fin, ck, 
  Option.bind_some, Option.bind_none, Option.bind_assoc, W_some, List.map_cons, List.map_nil, List.replicate, List.cons_append, List.nil_append, List.getElem?_cons_zero, List.getElem?_cons_succ, List.set_cons_zero, List.set_cons_succ, List.length_cons, List.length_nil, List.take_succ_cons, List.take_zero, List.take_nil, List.take_length, List.length_append, Nat.zero_add, Nat.lt_irrefl, Option.map_some, List.length_map, Int.toNat_natCast, if_true, if_false, Bool.false_eq_true, Bool.not_true, Bool.not_false, decide_true, decide_false, reduceCtorEq, lb0, lb1, lb2, lb3, lb4, lb5, lb6, lb7, lb8, lb9, lb10, lb11, lb12, lb13, lb14, lb15, lb16, lb17, $ls,*])
local macro_rules | `(tactic| simp_arith) => `(tactic| simp_arith [Option.bind_some])
theorem pure_law (ns : List Int) (hns : ns.length ≤ 63) : ∃ m', m_law [.d (.scr ns)] [] = some (.d (.bl true), m') := by
  suffices h : W (m_law [.d (.scr ns)] []) fun p => p.1 = .d (.bl true) by
    obtain ⟨⟨e, m'⟩, h1, h2⟩ := h
    have h2 : e = _ := h2
    rw [h2] at h1
    exact ⟨m', h1⟩
  unfold m_law
  rw [fnD_eq 1 2 b_law _ _ rfl]
  unfold b_law
  simp_arith
  refine W.step (deal_spec ns hns) ?_
  rintro _ ⟨row, t, rfl⟩
  simp_arith
  refine W.step (web_spec (by omega) (by omega) (by omega) (by omega)) ?_
  rintro _ ⟨n, ms, c, hw, hc0, hc1, rfl⟩
  obtain ⟨hn0, hn1, hml, hg⟩ := hw
  have hg2 : Good (n + 1) ms := fun q hq => by have := hg q hq; omega
  have web_fold : ∀ (n : Int) (l : Ms), D.tup [.int n, .tup (l.map pairD)] = webD n l := fun _ _ => rfl
  simp_arith [web_fold, law_busy_eq (n + 1) ms _ (by omega) (by omega) (by omega)]
  refine W.step (law_sides_judged_spec (by omega) (by omega) (by omega) (by omega) (by omega) hg2) ?_
  rintro _ ⟨c2, hd0, hd1, rfl⟩
  simp_arith
  refine W.step (law_people_spec (by omega) (by omega) (by omega) (by omega) (by omega) hg2) ?_
  rintro _ ⟨c3, he0, he1, rfl⟩
  simp_arith
  refine W.step (law_crowds_spec (by omega) (by omega)) ?_
  rintro _ ⟨c4, hf0, hf1, rfl⟩
  simp_arith
  refine W.step (law_rings_spec (by omega) (by omega)) ?_
  rintro _ ⟨c5, hf2, hf3, rfl⟩
  simp_arith
  refine W.step (law_shares_spec (by omega) (by omega)) ?_
  rintro _ ⟨c6, hf4, hf5, rfl⟩
  simp_arith
end Lw
namespace Lw
open PySem PySem.Spec L2 PL
set_option autoImplicit false
def topS (i : Nat) : Stmt := PySem.Challenge.pw_meetingdays_k35_judges_of_people.main.body.getD i (.Pass ⟨0, 0, 0, 0⟩)
structure Tops (K : PySem.W.Frag) (mg : Str → Option Value) : Prop where
  z_abs : mg "abs" = none
  z_bool : mg "bool" = none
  z_int : mg "int" = none
  z_isinstance : mg "isinstance" = none
  z_len : mg "len" = none
  z_list : mg "list" = none
  z_max : mg "max" = none
  z_min : mg "min" = none
  z_range : mg "range" = none
  z_sorted : mg "sorted" = none
  z_sum : mg "sum" = none
  z_tuple : mg "tuple" = none
section
variable {P : Program} {w : World} {K : PySem.W.Frag} {mg : Str → Option Value} {base : Heap}

abbrev s_meetings_of : Stmt := topS 1
theorem sc_meetings_of : FnScope ["web", "person", "i"] ["web", "person"] (defScope s_meetings_of) := ⟨rfl, rfl, rfl, by decide +kernel, rfl, by decide +kernel, by decide +kernel⟩
theorem ok_meetings_of {a : Addr} {fd : FuncData} (T : Tops K mg) (Z : At K mg "meetings_of" ["web", "person"] s_meetings_of a fd) : Fn P w K mg base 1 "meetings_of" 2 m_meetings_of := by
  refine fn_at (lev := 0) (n := 2) (k := 1) (body := b_meetings_of) Z sc_meetings_of rfl rfl ?_
  intro cdv A outer s H E hr
  exact (r_one (r_ret (r_lc (own := [("i", 2)]) rfl sc_meetings_of.nd (r_range1 (by rfl) T.z_range (q_len T.z_len (q_ix (r_var (pv 0)) r_int))) (blkOk_by (by kernel_rfl)) (tgOk_name (i := 2) (vs := [2]) (by decide)) (fun _ _ _ _ _ => (pg_name (i := 2) sc_meetings_of.nd rfl (by first | exact Or.inl rfl | exact Or.inr rfl))) (fun _ _ _ _ _ => (r_ifs1 (q_cmpT (c_in (u65 hr)) (r_var (pv 1)) (q_ix (q_ix (r_var (pv 0)) r_int) (r_var (pv 2)))))) (fun _ _ _ _ _ => (r_var (pv 2))))))
abbrev s_load : Stmt := topS 2
theorem sc_load : FnScope ["web", "person"] ["web", "person"] (defScope s_load) := ⟨rfl, rfl, rfl, by decide +kernel, rfl, by decide +kernel, by decide +kernel⟩
theorem ok_load {a : Addr} {fd : FuncData} (T : Tops K mg) (Z : At K mg "load" ["web", "person"] s_load a fd) (G_meetings_of : Fn P w K mg base 1 "meetings_of" 2 m_meetings_of) : Fn P w K mg base 2 "load" 2 m_load := by
  refine fn_at (lev := 1) (n := 2) (k := 0) (body := b_load) Z sc_load rfl rfl ?_
  intro cdv A outer s H E hr
  exact (r_one (r_ret (q_len T.z_len (r_call (G_meetings_of.mono (by omega)) hr (by rfl) (aCons_len (aCons_len aNil_len)) (r_acons (r_var (pv 0)) (r_acons (r_var (pv 1)) r_anil))))))
abbrev s_two_in : Stmt := topS 3
theorem sc_two_in : FnScope ["web", "people", "a", "b"] ["web", "people"] (defScope s_two_in) := ⟨rfl, rfl, rfl, by decide +kernel, rfl, by decide +kernel, by decide +kernel⟩
theorem ok_two_in {a : Addr} {fd : FuncData} (T : Tops K mg) (Z : At K mg "two_in" ["web", "people"] s_two_in a fd) : Fn P w K mg base 1 "two_in" 2 m_two_in := by
  refine fn_at (lev := 0) (n := 2) (k := 2) (body := b_two_in) Z sc_two_in rfl rfl ?_
  intro cdv A outer s H E hr
  exact (r_one (r_ret (q_len T.z_len (r_lc (own := [("a", 2), ("b", 3)]) rfl sc_two_in.nd (r_iter (q_ix (r_var (pv 0)) r_int)) (blkOk_by (by kernel_rfl)) (tgOk_tup (is := [2, 3]) (vs := [2, 3]) rfl (by decide)) (fun _ _ _ _ _ => (g_tup (is := [2, 3]) rfl (pgs_cons (pg_name (i := 2) sc_two_in.nd rfl (by first | exact Or.inl rfl | exact Or.inr rfl)) (pgs_cons (pg_name (i := 3) sc_two_in.nd rfl (by first | exact Or.inl rfl | exact Or.inr rfl)) pgs_nil)))) (fun _ _ _ _ _ => (r_ifs1 (r_and (q_cmpT (c_in (u65 hr)) (r_var (pv 2)) (r_var (pv 1))) (r_and1 (q_cmpT (c_in (u65 hr)) (r_var (pv 3)) (r_var (pv 1))))).pt)) (fun _ _ _ _ _ => r_int)))))
abbrev s_other_of : Stmt := topS 4
theorem sc_other_of : FnScope ["web", "i", "person", "a", "b"] ["web", "i", "person"] (defScope s_other_of) := ⟨rfl, rfl, rfl, by decide +kernel, rfl, by decide +kernel, by decide +kernel⟩
theorem ok_other_of {a : Addr} {fd : FuncData} (T : Tops K mg) (Z : At K mg "other_of" ["web", "i", "person"] s_other_of a fd) : Fn P w K mg base 1 "other_of" 3 m_other_of := by
  refine fn_at (lev := 0) (n := 3) (k := 2) (body := b_other_of) Z sc_other_of rfl rfl ?_
  intro cdv A outer s H E hr
  exact (r_cons (r_asgT (is := [3, 4]) rfl (q_ix (q_ix (r_var (pv 0)) r_int) (r_var (pv 1))) (pgs_cons (pg_name (i := 3) sc_other_of.nd rfl (by first | exact Or.inl rfl | exact Or.inr rfl)) (pgs_cons (pg_name (i := 4) sc_other_of.nd rfl (by first | exact Or.inl rfl | exact Or.inr rfl)) pgs_nil)))
    (r_one (r_ret (r_if (q_cmpT (c_eq (u64 hr)) (r_var (pv 2)) (r_var (pv 3))) (r_var (pv 4)) (r_var (pv 3))))))
abbrev s_shows_busy : Stmt := topS 6
theorem sc_shows_busy : FnScope ["web", "k", "person"] ["web", "k", "person"] (defScope s_shows_busy) := ⟨rfl, rfl, rfl, by decide +kernel, rfl, by decide +kernel, by decide +kernel⟩
theorem ok_shows_busy {a : Addr} {fd : FuncData} (T : Tops K mg) (Z : At K mg "shows_busy" ["web", "k", "person"] s_shows_busy a fd) (G_load : Fn P w K mg base 2 "load" 2 m_load) : Fn P w K mg base 3 "shows_busy" 3 m_shows_busy := by
  refine fn_at (lev := 2) (n := 3) (k := 0) (body := b_shows_busy) Z sc_shows_busy rfl rfl ?_
  intro cdv A outer s H E hr
  exact (r_one (r_ret (r_eand (q_chain c_le c_lt r_int (r_var (pv 2)) (q_ix (r_var (pv 0)) r_int)) (r_eone (q_cmp c_gt (r_call (G_load.mono (by omega)) hr (by rfl) (aCons_len (aCons_len aNil_len)) (r_acons (r_var (pv 0)) (r_acons (r_var (pv 2)) r_anil))) (r_var (pv 1)))))))
abbrev s_shows_crowd : Stmt := topS 7
theorem sc_shows_crowd : FnScope ["web", "k", "people", "n"] ["web", "k", "people"] (defScope s_shows_crowd) := ⟨rfl, rfl, rfl, by decide +kernel, rfl, by decide +kernel, by decide +kernel⟩
theorem ok_shows_crowd {a : Addr} {fd : FuncData} (T : Tops K mg) (Z : At K mg "shows_crowd" ["web", "k", "people"] s_shows_crowd a fd) (G_two_in : Fn P w K mg base 1 "two_in" 2 m_two_in) : Fn P w K mg base 2 "shows_crowd" 3 m_shows_crowd := by
  refine fn_at (lev := 1) (n := 3) (k := 1) (body := b_shows_crowd) Z sc_shows_crowd rfl rfl ?_
  intro cdv A outer s H E hr
  exact (r_cons (r_ifS (r_or (q_cmpT c_lt (q_len T.z_len (r_var (pv 2))) r_int) (r_or1 (q_cmpT (c_eq (u64 hr)) (q_mod (q_len T.z_len (r_var (pv 2))) r_int) r_int))).pt (r_one (r_ret r_bl)) r_nil)
    (r_cons (r_for PassesOwn.never rfl (r_range1 (by rfl) T.z_range (q_len T.z_len (r_var (pv 2)))) (pg_name (i := 3) sc_shows_crowd.nd rfl (by first | exact Or.inl rfl | exact Or.inr rfl)) (tgOk_name (i := 3) (vs := [3]) (by decide)) (r_one (r_ifS (r_or (r_not (q_chainT c_le c_lt r_int (q_ix (r_var (pv 2)) (r_var (pv 3))) (q_ix (r_var (pv 0)) r_int))) (r_or1 (r_and (q_cmpT c_gt (r_var (pv 3)) r_int) (r_and1 (r_not (q_cmpT c_lt (q_ix (r_var (pv 2)) (q_sub (r_var (pv 3)) r_int)) (q_ix (r_var (pv 2)) (r_var (pv 3))))))).pt)).pt (r_one (r_ret r_bl)) r_nil)))
    (r_one (r_ret (q_cmp c_gt (r_call (G_two_in.mono (by omega)) hr (by rfl) (aCons_len (aCons_len aNil_len)) (r_acons (r_var (pv 0)) (r_acons (r_var (pv 2)) r_anil))) (q_mul (r_var (pv 1)) (q_div (q_len T.z_len (r_var (pv 2))) r_int)))))))
abbrev s_odd_parts : Stmt := topS 9
theorem sc_odd_parts : FnScope ["web", "people", "known", "number", "start", "met", "at", "i", "other", "person"] ["web", "people"] (defScope s_odd_parts) := ⟨rfl, rfl, rfl, by decide +kernel, rfl, by decide +kernel, by decide +kernel⟩
theorem ok_odd_parts {a : Addr} {fd : FuncData} (T : Tops K mg) (Z : At K mg "odd_parts" ["web", "people"] s_odd_parts a fd) (G_meetings_of : Fn P w K mg base 1 "meetings_of" 2 m_meetings_of) (G_other_of : Fn P w K mg base 1 "other_of" 3 m_other_of) : Fn P w K mg base 2 "odd_parts" 2 m_odd_parts := by
  refine fn_at (lev := 1) (n := 2) (k := 8) (body := b_odd_parts) Z sc_odd_parts rfl rfl ?_
  intro cdv A outer s H E hr
  exact (r_cons (r_setDcO (i := 2) (own := [("person", 9)]) rfl sc_odd_parts.nd rfl rfl (sw_trueD rfl rfl rfl (by decide +kernel)) (r_iter (r_var (pv 1))) (blkOk_by (by kernel_rfl)) (tgOk_name (i := 9) (vs := [9]) (by decide)) (fun _ _ _ _ _ => (pg_name (i := 9) sc_odd_parts.nd rfl (by first | exact Or.inl rfl | exact Or.inr rfl))) (fun _ _ _ _ _ => r_ifs0) (fun _ _ _ _ _ => (r_var (pv 9))) (fun _ _ _ _ _ => r_bl))
    (r_cons (r_set (i := 3) sc_odd_parts.nd rfl (by first | exact Or.inl rfl | exact Or.inr rfl) r_int rfl (by first | exact .inl rfl | exact .inr rfl))
    (r_cons (r_for PassesOwn.never rfl (r_range1 (by rfl) T.z_range (q_ix (r_var (pv 0)) r_int)) (pg_name (i := 4) sc_odd_parts.nd rfl (by first | exact Or.inl rfl | exact Or.inr rfl)) (tgOk_name (i := 4) (vs := [4]) (by decide)) (r_one (r_ifS (r_notInDT (hu_of hr) (r_var (pv 4)) (r_var (pv 2))) (r_cons (r_set (i := 5) sc_odd_parts.nd rfl (by first | exact Or.inl rfl | exact Or.inr rfl) (r_lstO (r_acons (r_var (pv 4)) r_anil)) rfl (by first | exact .inl rfl | exact .inr rfl))
    (r_cons (r_putD (hu_of hr) (r_var (pv 2)) (r_var (pv 4)) r_bl rfl)
    (r_cons (r_set (i := 6) sc_odd_parts.nd rfl (by first | exact Or.inl rfl | exact Or.inr rfl) r_int rfl (by first | exact .inl rfl | exact .inr rfl))
    (r_cons (r_while PassesOwn.never (q_cmpT c_lt (r_var (pv 6)) (q_len T.z_len (r_var (pv 5)))) (r_cons (r_for PassesOwn.never rfl (r_iter (r_call (G_meetings_of.mono (by omega)) hr (by rfl) (aCons_len (aCons_len aNil_len)) (r_acons (r_var (pv 0)) (r_acons (q_ix (r_var (pv 5)) (r_var (pv 6))) r_anil)))) (pg_name (i := 7) sc_odd_parts.nd rfl (by first | exact Or.inl rfl | exact Or.inr rfl)) (tgOk_name (i := 7) (vs := [7]) (by decide)) (r_cons (r_set (i := 8) sc_odd_parts.nd rfl (by first | exact Or.inl rfl | exact Or.inr rfl) (r_call (G_other_of.mono (by omega)) hr (by rfl) (aCons_len (aCons_len (aCons_len aNil_len))) (r_acons (r_var (pv 0)) (r_acons (r_var (pv 7)) (r_acons (q_ix (r_var (pv 5)) (r_var (pv 6))) r_anil)))) rfl (by first | exact .inl rfl | exact .inr rfl))
    (r_one (r_ifS (r_notInDT (hu_of hr) (r_var (pv 8)) (r_var (pv 2))) (r_cons (r_putD (hu_of hr) (r_var (pv 2)) (r_var (pv 8)) r_bl rfl)
    (r_one (r_expr (r_app (r_var (pv 5)) (r_var (pv 8)))))) r_nil))))
    (r_one (r_set (i := 6) sc_odd_parts.nd rfl (by first | exact Or.inl rfl | exact Or.inr rfl) (q_add (r_var (pv 6)) r_int) rfl (by first | exact .inl rfl | exact .inr rfl)))))
    (r_one (r_set (i := 3) sc_odd_parts.nd rfl (by first | exact Or.inl rfl | exact Or.inr rfl) (q_add (r_var (pv 3)) (q_mod (q_len T.z_len (r_var (pv 5))) r_int)) rfl (by first | exact .inl rfl | exact .inr rfl))))))) r_nil)))
    (r_one (r_ret (r_var (pv 3)))))))
abbrev s_are_people : Stmt := topS 10
theorem sc_are_people : FnScope ["web", "people", "n"] ["web", "people"] (defScope s_are_people) := ⟨rfl, rfl, rfl, by decide +kernel, rfl, by decide +kernel, by decide +kernel⟩
theorem ok_are_people {a : Addr} {fd : FuncData} (T : Tops K mg) (Z : At K mg "are_people" ["web", "people"] s_are_people a fd) : Fn P w K mg base 1 "are_people" 2 m_are_people := by
  refine fn_at (lev := 0) (n := 2) (k := 1) (body := b_are_people) Z sc_are_people rfl rfl ?_
  intro cdv A outer s H E hr
  exact (r_cons (r_for PassesOwn.never rfl (r_range1 (by rfl) T.z_range (q_len T.z_len (r_var (pv 1)))) (pg_name (i := 2) sc_are_people.nd rfl (by first | exact Or.inl rfl | exact Or.inr rfl)) (tgOk_name (i := 2) (vs := [2]) (by decide)) (r_one (r_ifS (r_or (r_not (q_chainT c_le c_lt r_int (q_ix (r_var (pv 1)) (r_var (pv 2))) (q_ix (r_var (pv 0)) r_int))) (r_or1 (r_and (q_cmpT c_gt (r_var (pv 2)) r_int) (r_and1 (r_not (q_cmpT c_lt (q_ix (r_var (pv 1)) (q_sub (r_var (pv 2)) r_int)) (q_ix (r_var (pv 1)) (r_var (pv 2))))))).pt)).pt (r_one (r_ret r_bl)) r_nil)))
    (r_one (r_ret r_bl)))
abbrev s_shows_bar : Stmt := topS 11
theorem sc_shows_bar : FnScope ["web", "m", "people"] ["web", "m", "people"] (defScope s_shows_bar) := ⟨rfl, rfl, rfl, by decide +kernel, rfl, by decide +kernel, by decide +kernel⟩
theorem ok_shows_bar {a : Addr} {fd : FuncData} (T : Tops K mg) (Z : At K mg "shows_bar" ["web", "m", "people"] s_shows_bar a fd) (G_are_people : Fn P w K mg base 1 "are_people" 2 m_are_people) (G_odd_parts : Fn P w K mg base 2 "odd_parts" 2 m_odd_parts) : Fn P w K mg base 3 "shows_bar" 3 m_shows_bar := by
  refine fn_at (lev := 2) (n := 3) (k := 0) (body := b_shows_bar) Z sc_shows_bar rfl rfl ?_
  intro cdv A outer s H E hr
  exact (r_one (r_ret (r_eand (r_call (G_are_people.mono (by omega)) hr (by rfl) (aCons_len (aCons_len aNil_len)) (r_acons (r_var (pv 0)) (r_acons (r_var (pv 2)) r_anil))) (r_eone (q_cmp c_le (q_div (q_sub (q_add (q_ix (r_var (pv 0)) r_int) (q_len T.z_len (r_var (pv 2)))) (r_call (G_odd_parts.mono (by omega)) hr (by rfl) (aCons_len (aCons_len aNil_len)) (r_acons (r_var (pv 0)) (r_acons (r_var (pv 2)) r_anil)))) r_int) (r_var (pv 1)))))))
abbrev s_shows_sides : Stmt := topS 13
theorem sc_shows_sides : FnScope ["web", "paper", "a", "b", "side"] ["web", "paper"] (defScope s_shows_sides) := ⟨rfl, rfl, rfl, by decide +kernel, rfl, by decide +kernel, by decide +kernel⟩
theorem ok_shows_sides {a : Addr} {fd : FuncData} (T : Tops K mg) (Z : At K mg "shows_sides" ["web", "paper"] s_shows_sides a fd) : Fn P w K mg base 1 "shows_sides" 2 m_shows_sides := by
  refine fn_at (lev := 0) (n := 2) (k := 3) (body := b_shows_sides) Z sc_shows_sides rfl rfl ?_
  intro cdv A outer s H E hr
  exact (r_cons (r_ifS (r_or (q_cmpT (c_ne (u64 hr)) (q_len T.z_len (r_var (pv 1))) (q_ix (r_var (pv 0)) r_int)) (r_or1 (q_cmpT c_gt (q_len T.z_len (r_lc (own := [("side", 4)]) rfl sc_shows_sides.nd (r_iter (r_var (pv 1))) (blkOk_by (by kernel_rfl)) (tgOk_name (i := 4) (vs := [4]) (by decide)) (fun _ _ _ _ _ => (pg_name (i := 4) sc_shows_sides.nd rfl (by first | exact Or.inl rfl | exact Or.inr rfl))) (fun _ _ _ _ _ => (r_ifs1 (q_cmpT (c_nin (u65 hr)) (r_var (pv 4)) (r_tup (r_acons r_int (r_acons r_int r_anil)))))) (fun _ _ _ _ _ => r_int))) r_int))).pt (r_one (r_ret r_bl)) r_nil)
    (r_one (r_ret (q_cmp (c_eq (u64 hr)) (q_len T.z_len (r_lc (own := [("a", 2), ("b", 3)]) rfl sc_shows_sides.nd (r_iter (q_ix (r_var (pv 0)) r_int)) (blkOk_by (by kernel_rfl)) (tgOk_tup (is := [2, 3]) (vs := [2, 3]) rfl (by decide)) (fun _ _ _ _ _ => (g_tup (is := [2, 3]) rfl (pgs_cons (pg_name (i := 2) sc_shows_sides.nd rfl (by first | exact Or.inl rfl | exact Or.inr rfl)) (pgs_cons (pg_name (i := 3) sc_shows_sides.nd rfl (by first | exact Or.inl rfl | exact Or.inr rfl)) pgs_nil)))) (fun _ _ _ _ _ => (r_ifs1 (q_cmpT (c_eq (u64 hr)) (q_ix (r_var (pv 1)) (r_var (pv 2))) (q_ix (r_var (pv 1)) (r_var (pv 3)))))) (fun _ _ _ _ _ => r_int))) r_int))))
abbrev s_shows_ring : Stmt := topS 14
theorem sc_shows_ring : FnScope ["web", "people", "n", "one", "other"] ["web", "people"] (defScope s_shows_ring) := ⟨rfl, rfl, rfl, by decide +kernel, rfl, by decide +kernel, by decide +kernel⟩
theorem ok_shows_ring {a : Addr} {fd : FuncData} (T : Tops K mg) (Z : At K mg "shows_ring" ["web", "people"] s_shows_ring a fd) : Fn P w K mg base 1 "shows_ring" 2 m_shows_ring := by
  refine fn_at (lev := 0) (n := 2) (k := 3) (body := b_shows_ring) Z sc_shows_ring rfl rfl ?_
  intro cdv A outer s H E hr
  exact (r_cons (r_ifS (r_or (q_cmpT c_lt (q_len T.z_len (r_var (pv 1))) r_int) (r_or1 (q_cmpT (c_eq (u64 hr)) (q_mod (q_len T.z_len (r_var (pv 1))) r_int) r_int))).pt (r_one (r_ret r_bl)) r_nil)
    (r_cons (r_for PassesOwn.never rfl (r_range1 (by rfl) T.z_range (q_len T.z_len (r_var (pv 1)))) (pg_name (i := 2) sc_shows_ring.nd rfl (by first | exact Or.inl rfl | exact Or.inr rfl)) (tgOk_name (i := 2) (vs := [2]) (by decide)) (r_cons (r_asgT (is := [3, 4]) rfl (q_sorted T.z_sorted (r_lst (r_acons (q_ix (r_var (pv 1)) (q_sub (r_var (pv 2)) r_int)) (r_acons (q_ix (r_var (pv 1)) (r_var (pv 2))) r_anil)))) (pgs_cons (pg_name (i := 3) sc_shows_ring.nd rfl (by first | exact Or.inl rfl | exact Or.inr rfl)) (pgs_cons (pg_name (i := 4) sc_shows_ring.nd rfl (by first | exact Or.inl rfl | exact Or.inr rfl)) pgs_nil)))
    (r_one (r_ifS (q_cmpT (c_nin (u65 hr)) (r_tup (r_acons (r_var (pv 3)) (r_acons (r_var (pv 4)) r_anil))) (q_ix (r_var (pv 0)) r_int)) (r_one (r_ret r_bl)) r_nil))))
    (r_one (r_ret r_bl))))
abbrev s_shows_shares : Stmt := topS 16
theorem sc_shows_shares : FnScope ["web", "prices", "w", "paper", "i", "share"] ["web", "prices", "w", "paper"] (defScope s_shows_shares) := ⟨rfl, rfl, rfl, by decide +kernel, rfl, by decide +kernel, by decide +kernel⟩
theorem ok_shows_shares {a : Addr} {fd : FuncData} (T : Tops K mg) (Z : At K mg "shows_shares" ["web", "prices", "w", "paper"] s_shows_shares a fd) : Fn P w K mg base 1 "shows_shares" 4 m_shows_shares := by
  refine fn_at (lev := 0) (n := 4) (k := 2) (body := b_shows_shares) Z sc_shows_shares rfl rfl ?_
  intro cdv A outer s H E hr
  exact (r_cons (r_ifS (r_or (q_cmpT (c_ne (u64 hr)) (q_len T.z_len (r_var (pv 3))) (q_ix (r_var (pv 0)) r_int)) (r_or (q_cmpT c_gt (q_len T.z_len (r_lc (own := [("share", 5)]) rfl sc_shows_shares.nd (r_iter (r_var (pv 3))) (blkOk_by (by kernel_rfl)) (tgOk_name (i := 5) (vs := [5]) (by decide)) (fun _ _ _ _ _ => (pg_name (i := 5) sc_shows_shares.nd rfl (by first | exact Or.inl rfl | exact Or.inr rfl))) (fun _ _ _ _ _ => (r_ifs1 (q_cmpT c_lt (r_var (pv 5)) r_int))) (fun _ _ _ _ _ => r_int))) r_int) (r_or1 (q_cmpT c_gt (q_sum rfl T.z_sum (r_var (pv 3))) (r_var (pv 2)))))).pt (r_one (r_ret r_bl)) r_nil)
    (r_one (r_ret (q_cmp (c_eq (u64 hr)) (q_len T.z_len (r_lc (own := [("i", 4)]) rfl sc_shows_shares.nd (r_range1 (by rfl) T.z_range (q_len T.z_len (r_var (pv 1)))) (blkOk_by (by kernel_rfl)) (tgOk_name (i := 4) (vs := [4]) (by decide)) (fun _ _ _ _ _ => (pg_name (i := 4) sc_shows_shares.nd rfl (by first | exact Or.inl rfl | exact Or.inr rfl))) (fun _ _ _ _ _ => (r_ifs1 (q_cmpT c_lt (q_add (q_ix (r_var (pv 3)) (q_ix (q_ix (q_ix (r_var (pv 0)) r_int) (r_var (pv 4))) r_int)) (q_ix (r_var (pv 3)) (q_ix (q_ix (q_ix (r_var (pv 0)) r_int) (r_var (pv 4))) r_int))) (q_ix (r_var (pv 1)) (r_var (pv 4)))))) (fun _ _ _ _ _ => r_int))) r_int))))
abbrev s_shows_watch : Stmt := topS 18
theorem sc_shows_watch : FnScope ["web", "people", "a", "b"] ["web", "people"] (defScope s_shows_watch) := ⟨rfl, rfl, rfl, by decide +kernel, rfl, by decide +kernel, by decide +kernel⟩
theorem ok_shows_watch {a : Addr} {fd : FuncData} (T : Tops K mg) (Z : At K mg "shows_watch" ["web", "people"] s_shows_watch a fd) (G_are_people : Fn P w K mg base 1 "are_people" 2 m_are_people) : Fn P w K mg base 2 "shows_watch" 2 m_shows_watch := by
  refine fn_at (lev := 1) (n := 2) (k := 2) (body := b_shows_watch) Z sc_shows_watch rfl rfl ?_
  intro cdv A outer s H E hr
  exact (r_cons (r_ifS (r_not (r_val (r_call (G_are_people.mono (by omega)) hr (by rfl) (aCons_len (aCons_len aNil_len)) (r_acons (r_var (pv 0)) (r_acons (r_var (pv 1)) r_anil))))) (r_one (r_ret r_bl)) r_nil)
    (r_one (r_ret (q_cmp (c_eq (u64 hr)) (q_len T.z_len (r_lc (own := [("a", 2), ("b", 3)]) rfl sc_shows_watch.nd (r_iter (q_ix (r_var (pv 0)) r_int)) (blkOk_by (by kernel_rfl)) (tgOk_tup (is := [2, 3]) (vs := [2, 3]) rfl (by decide)) (fun _ _ _ _ _ => (g_tup (is := [2, 3]) rfl (pgs_cons (pg_name (i := 2) sc_shows_watch.nd rfl (by first | exact Or.inl rfl | exact Or.inr rfl)) (pgs_cons (pg_name (i := 3) sc_shows_watch.nd rfl (by first | exact Or.inl rfl | exact Or.inr rfl)) pgs_nil)))) (fun _ _ _ _ _ => (r_ifs1 (r_and (q_cmpT (c_nin (u65 hr)) (r_var (pv 2)) (r_var (pv 1))) (r_and1 (q_cmpT (c_nin (u65 hr)) (r_var (pv 3)) (r_var (pv 1))))).pt)) (fun _ _ _ _ _ => r_int))) r_int))))
abbrev s__law_deal : Stmt := topS 20
theorem sc__law_deal : FnScope ["script", "row", "k", "cell", "turn", "total"] ["script"] (defScope s__law_deal) := ⟨rfl, rfl, rfl, by decide +kernel, rfl, by decide +kernel, by decide +kernel⟩
theorem ok__law_deal {a : Addr} {fd : FuncData} (T : Tops K mg) (Z : At K mg "_law_deal" ["script"] s__law_deal a fd) : Fn P w K mg base 1 "_law_deal" 1 m__law_deal := by
  refine fn_at (lev := 0) (n := 1) (k := 5) (body := b__law_deal) Z sc__law_deal rfl rfl ?_
  intro cdv A outer s H E hr
  exact (r_cons (r_set (i := 1) sc__law_deal.nd rfl (by first | exact Or.inl rfl | exact Or.inr rfl) (r_lstO r_anil) rfl (by first | exact .inl rfl | exact .inr rfl))
    (r_cons (r_for PassesOwn.never rfl (r_range1 (by rfl) T.z_range (q_min2 rfl T.z_min (q_len T.z_len (r_var (pv 0))) r_int)) (pg_name (i := 2) sc__law_deal.nd rfl (by first | exact Or.inl rfl | exact Or.inr rfl)) (tgOk_name (i := 2) (vs := [2]) (by decide)) (r_cons (r_set (i := 3) sc__law_deal.nd rfl (by first | exact Or.inl rfl | exact Or.inr rfl) (q_abs T.z_abs (q_int T.z_int (q_ix (r_var (pv 0)) (r_var (pv 2))))) rfl (by first | exact .inl rfl | exact .inr rfl))
    (r_one (r_ifS (q_cmpT c_ge (r_var (pv 3)) (q_pow r_int r_int)) (r_one (r_for PassesOwn.never rfl (r_range1 (by rfl) T.z_range r_int) (pg_name (i := 4) sc__law_deal.nd rfl (by first | exact Or.inl rfl | exact Or.inr rfl)) (tgOk_name (i := 4) (vs := [4]) (by decide)) (r_one (r_ifS (q_cmpT c_gt (r_var (pv 3)) r_int) (r_cons (r_expr (r_app (r_var (pv 1)) (q_mod (r_var (pv 3)) r_int)))
    (r_one (r_set (i := 3) sc__law_deal.nd rfl (by first | exact Or.inl rfl | exact Or.inr rfl) (q_div (r_var (pv 3)) r_int) rfl (by first | exact .inl rfl | exact .inr rfl)))) r_nil)))) (r_cons (r_set (i := 3) sc__law_deal.nd rfl (by first | exact Or.inl rfl | exact Or.inr rfl) (q_add (q_add (q_mul (q_mod (r_var (pv 3)) r_int) r_int) (q_mul (r_var (pv 2)) r_int)) r_int) rfl (by first | exact .inl rfl | exact .inr rfl))
    (r_one (r_for PassesOwn.never rfl (r_range1 (by rfl) T.z_range r_int) (pg_name (i := 4) sc__law_deal.nd rfl (by first | exact Or.inl rfl | exact Or.inr rfl)) (tgOk_name (i := 4) (vs := [4]) (by decide)) (r_cons (r_set (i := 3) sc__law_deal.nd rfl (by first | exact Or.inl rfl | exact Or.inr rfl) (q_mod (q_add (q_add (q_mul (r_var (pv 3)) r_int) r_int) (r_var (pv 4))) r_int) rfl (by first | exact .inl rfl | exact .inr rfl))
    (r_one (r_expr (r_app (r_var (pv 1)) (q_mod (q_div (r_var (pv 3)) r_int) r_int))))))))))))
    (r_cons (r_set (i := 5) sc__law_deal.nd rfl (by first | exact Or.inl rfl | exact Or.inr rfl) (q_add (q_sum rfl T.z_sum (r_var (pv 1))) (q_len T.z_len (r_var (pv 0)))) rfl (by first | exact .inl rfl | exact .inr rfl))
    (r_one (r_ret (r_deal (r_var (pv 1)) (r_lstO (r_acons r_int r_anil)) (r_var (pv 5))))))))
abbrev s__law_take : Stmt := topS 21
theorem sc__law_take : FnScope ["deal", "many", "at"] ["deal", "many"] (defScope s__law_take) := ⟨rfl, rfl, rfl, by decide +kernel, rfl, by decide +kernel, by decide +kernel⟩
theorem ok__law_take {a : Addr} {fd : FuncData} (T : Tops K mg) (Z : At K mg "_law_take" ["deal", "many"] s__law_take a fd) : Fn P w K mg base 1 "_law_take" 2 m__law_take := by
  refine fn_at (lev := 0) (n := 2) (k := 1) (body := b__law_take) Z sc__law_take rfl rfl ?_
  intro cdv A outer s H E hr
  exact (r_cons (r_set (i := 2) sc__law_take.nd rfl (by first | exact Or.inl rfl | exact Or.inr rfl) (q_ix (q_ix (r_var (pv 0)) r_int) r_int) rfl (by first | exact .inl rfl | exact .inr rfl))
    (r_cons (r_putL (q_ix (r_var (pv 0)) r_int) r_int (q_add (r_var (pv 2)) r_int))
    (r_cons (r_ifS (q_cmpT c_lt (r_var (pv 2)) (q_len T.z_len (q_ix (r_var (pv 0)) r_int))) (r_one (r_ret (q_mod (q_ix (q_ix (r_var (pv 0)) r_int) (r_var (pv 2))) (r_var (pv 1))))) r_nil)
    (r_one (r_ret (q_mod (q_div (q_add (q_add (q_mul (r_var (pv 2)) r_int) (q_mul (q_ix (r_var (pv 0)) r_int) r_int)) (q_mul (q_mul (r_var (pv 2)) (r_var (pv 2))) r_int)) r_int) (r_var (pv 1))))))))
abbrev s__law_bool : Stmt := topS 22
theorem sc__law_bool : FnScope ["answer", "due"] ["answer", "due"] (defScope s__law_bool) := ⟨rfl, rfl, rfl, by decide +kernel, rfl, by decide +kernel, by decide +kernel⟩
theorem ok__law_bool {a : Addr} {fd : FuncData} (T : Tops K mg) (Z : At K mg "_law_bool" ["answer", "due"] s__law_bool a fd) : Fn P w K mg base 1 "_law_bool" 2 m__law_bool := by
  refine fn_at (lev := 0) (n := 2) (k := 0) (body := b__law_bool) Z sc__law_bool rfl rfl ?_
  intro cdv A outer s H E hr
  exact (r_one (r_ret (r_eand (q_isi (by decide) T.z_isinstance T.z_bool (by decide +kernel) (r_var (pv 0))) (r_eone (q_cmp (c_eq (u64 hr)) (r_var (pv 0)) (r_var (pv 1)))))))
abbrev s__law_plain : Stmt := topS 23
theorem sc__law_plain : FnScope ["deal", "most", "limit", "people", "chance", "meetings", "a", "b", "turn", "at"] ["deal", "most", "limit"] (defScope s__law_plain) := ⟨rfl, rfl, rfl, by decide +kernel, rfl, by decide +kernel, by decide +kernel⟩
theorem ok__law_plain {a : Addr} {fd : FuncData} (T : Tops K mg) (Z : At K mg "_law_plain" ["deal", "most", "limit"] s__law_plain a fd) (G__law_take : Fn P w K mg base 1 "_law_take" 2 m__law_take) : Fn P w K mg base 2 "_law_plain" 3 m__law_plain := by
  refine fn_at (lev := 1) (n := 3) (k := 7) (body := b__law_plain) Z sc__law_plain rfl rfl ?_
  intro cdv A outer s H E hr
  exact (r_cons (r_set (i := 3) sc__law_plain.nd rfl (by first | exact Or.inl rfl | exact Or.inr rfl) (r_call (G__law_take.mono (by omega)) hr (by rfl) (aCons_len (aCons_len aNil_len)) (r_acons (r_var (pv 0)) (r_acons (q_add (r_var (pv 1)) r_int) r_anil))) rfl (by first | exact .inl rfl | exact .inr rfl))
    (r_cons (r_set (i := 4) sc__law_plain.nd rfl (by first | exact Or.inl rfl | exact Or.inr rfl) (q_add r_int (r_call (G__law_take.mono (by omega)) hr (by rfl) (aCons_len (aCons_len aNil_len)) (r_acons (r_var (pv 0)) (r_acons r_int r_anil)))) rfl (by first | exact .inl rfl | exact .inr rfl))
    (r_cons (r_set (i := 5) sc__law_plain.nd rfl (by first | exact Or.inl rfl | exact Or.inr rfl) (r_lstO r_anil) rfl (by first | exact .inl rfl | exact .inr rfl))
    (r_cons (r_for PassesOwn.never rfl (r_range1 (by rfl) T.z_range (r_var (pv 3))) (pg_name (i := 6) sc__law_plain.nd rfl (by first | exact Or.inl rfl | exact Or.inr rfl)) (tgOk_name (i := 6) (vs := [6]) (by decide)) (r_one (r_for PassesOwn.never rfl (r_range2 (by rfl) T.z_range (q_add (r_var (pv 6)) r_int) (r_var (pv 3))) (pg_name (i := 7) sc__law_plain.nd rfl (by first | exact Or.inl rfl | exact Or.inr rfl)) (tgOk_name (i := 7) (vs := [7]) (by decide)) (r_one (r_ifS (r_and (q_cmpT c_lt (r_call (G__law_take.mono (by omega)) hr (by rfl) (aCons_len (aCons_len aNil_len)) (r_acons (r_var (pv 0)) (r_acons r_int r_anil))) (r_var (pv 4))) (r_and1 (q_cmpT c_lt (q_len T.z_len (r_var (pv 5))) (r_var (pv 2))))).pt (r_one (r_expr (r_app (r_var (pv 5)) (r_tup (r_acons (r_var (pv 6)) (r_acons (r_var (pv 7)) r_anil)))))) r_nil)))))
    (r_cons (r_for PassesOwn.never rfl (r_range1 (by rfl) T.z_range (r_call (G__law_take.mono (by omega)) hr (by rfl) (aCons_len (aCons_len aNil_len)) (r_acons (r_var (pv 0)) (r_acons r_int r_anil)))) (pg_name (i := 8) sc__law_plain.nd rfl (by first | exact Or.inl rfl | exact Or.inr rfl)) (tgOk_name (i := 8) (vs := [8]) (by decide)) (r_one (r_ifS (q_cmpT c_gt (q_len T.z_len (r_var (pv 5))) r_int) (r_cons (r_set (i := 9) sc__law_plain.nd rfl (by first | exact Or.inl rfl | exact Or.inr rfl) (r_call (G__law_take.mono (by omega)) hr (by rfl) (aCons_len (aCons_len aNil_len)) (r_acons (r_var (pv 0)) (r_acons (q_len T.z_len (r_var (pv 5))) r_anil))) rfl (by first | exact .inl rfl | exact .inr rfl))
    (r_one (r_set (i := 5) sc__law_plain.nd rfl (by first | exact Or.inl rfl | exact Or.inr rfl) (q_add (r_sl (r_var (pv 5)) (r_osome (r_var (pv 9))) r_onone) (r_sl (r_var (pv 5)) r_onone (r_osome (r_var (pv 9))))) rfl (by first | exact .inl rfl | exact .inr rfl)))) r_nil)))
    (r_one (r_ret (r_tup (r_acons (r_var (pv 3)) (r_acons (q_tuple T.z_tuple (r_var (pv 5))) r_anil))))))))))
abbrev s__law_sided : Stmt := topS 24
theorem sc__law_sided : FnScope ["deal", "most", "limit", "one", "other", "meetings", "turn"] ["deal", "most", "limit"] (defScope s__law_sided) := ⟨rfl, rfl, rfl, by decide +kernel, rfl, by decide +kernel, by decide +kernel⟩
theorem ok__law_sided {a : Addr} {fd : FuncData} (T : Tops K mg) (Z : At K mg "_law_sided" ["deal", "most", "limit"] s__law_sided a fd) (G__law_take : Fn P w K mg base 1 "_law_take" 2 m__law_take) : Fn P w K mg base 2 "_law_sided" 3 m__law_sided := by
  refine fn_at (lev := 1) (n := 3) (k := 4) (body := b__law_sided) Z sc__law_sided rfl rfl ?_
  intro cdv A outer s H E hr
  exact (r_cons (r_set (i := 3) sc__law_sided.nd rfl (by first | exact Or.inl rfl | exact Or.inr rfl) (q_add r_int (r_call (G__law_take.mono (by omega)) hr (by rfl) (aCons_len (aCons_len aNil_len)) (r_acons (r_var (pv 0)) (r_acons (r_var (pv 1)) r_anil)))) rfl (by first | exact .inl rfl | exact .inr rfl))
    (r_cons (r_set (i := 4) sc__law_sided.nd rfl (by first | exact Or.inl rfl | exact Or.inr rfl) (q_add r_int (r_call (G__law_take.mono (by omega)) hr (by rfl) (aCons_len (aCons_len aNil_len)) (r_acons (r_var (pv 0)) (r_acons (r_var (pv 1)) r_anil)))) rfl (by first | exact .inl rfl | exact .inr rfl))
    (r_cons (r_set (i := 5) sc__law_sided.nd rfl (by first | exact Or.inl rfl | exact Or.inr rfl) (r_lstO r_anil) rfl (by first | exact .inl rfl | exact .inr rfl))
    (r_cons (r_for PassesOwn.never rfl (r_range1 (by rfl) T.z_range (r_call (G__law_take.mono (by omega)) hr (by rfl) (aCons_len (aCons_len aNil_len)) (r_acons (r_var (pv 0)) (r_acons (q_add (r_var (pv 2)) r_int) r_anil)))) (pg_name (i := 6) sc__law_sided.nd rfl (by first | exact Or.inl rfl | exact Or.inr rfl)) (tgOk_name (i := 6) (vs := [6]) (by decide)) (r_one (r_expr (r_app (r_var (pv 5)) (r_tup (r_acons (r_call (G__law_take.mono (by omega)) hr (by rfl) (aCons_len (aCons_len aNil_len)) (r_acons (r_var (pv 0)) (r_acons (r_var (pv 3)) r_anil))) (r_acons (q_add (r_var (pv 3)) (r_call (G__law_take.mono (by omega)) hr (by rfl) (aCons_len (aCons_len aNil_len)) (r_acons (r_var (pv 0)) (r_acons (r_var (pv 4)) r_anil)))) r_anil)))))))
    (r_one (r_ret (r_tup (r_acons (q_add (r_var (pv 3)) (r_var (pv 4))) (r_acons (q_tuple T.z_tuple (r_var (pv 5))) r_anil)))))))))
abbrev s__law_any : Stmt := topS 25
theorem sc__law_any : FnScope ["deal", "limit", "choice", "people", "meetings", "turn", "a"] ["deal", "limit"] (defScope s__law_any) := ⟨rfl, rfl, rfl, by decide +kernel, rfl, by decide +kernel, by decide +kernel⟩
theorem ok__law_any {a : Addr} {fd : FuncData} (T : Tops K mg) (Z : At K mg "_law_any" ["deal", "limit"] s__law_any a fd) (G__law_plain : Fn P w K mg base 2 "_law_plain" 3 m__law_plain) (G__law_sided : Fn P w K mg base 2 "_law_sided" 3 m__law_sided) (G__law_take : Fn P w K mg base 1 "_law_take" 2 m__law_take) : Fn P w K mg base 3 "_law_any" 2 m__law_any := by
  refine fn_at (lev := 2) (n := 2) (k := 5) (body := b__law_any) Z sc__law_any rfl rfl ?_
  intro cdv A outer s H E hr
  exact (r_cons (r_set (i := 2) sc__law_any.nd rfl (by first | exact Or.inl rfl | exact Or.inr rfl) (r_call (G__law_take.mono (by omega)) hr (by rfl) (aCons_len (aCons_len aNil_len)) (r_acons (r_var (pv 0)) (r_acons r_int r_anil))) rfl (by first | exact .inl rfl | exact .inr rfl))
    (r_cons (r_ifS (q_cmpT (c_eq (u64 hr)) (r_var (pv 2)) r_int) (r_one (r_ret (r_call (G__law_plain.mono (by omega)) hr (by rfl) (aCons_len (aCons_len (aCons_len aNil_len))) (r_acons (r_var (pv 0)) (r_acons r_int (r_acons (r_var (pv 1)) r_anil)))))) r_nil)
    (r_cons (r_ifS (q_cmpT (c_eq (u64 hr)) (r_var (pv 2)) r_int) (r_one (r_ret (r_call (G__law_sided.mono (by omega)) hr (by rfl) (aCons_len (aCons_len (aCons_len aNil_len))) (r_acons (r_var (pv 0)) (r_acons r_int (r_acons (r_var (pv 1)) r_anil)))))) r_nil)
    (r_cons (r_set (i := 3) sc__law_any.nd rfl (by first | exact Or.inl rfl | exact Or.inr rfl) (q_add r_int (r_call (G__law_take.mono (by omega)) hr (by rfl) (aCons_len (aCons_len aNil_len)) (r_acons (r_var (pv 0)) (r_acons r_int r_anil)))) rfl (by first | exact .inl rfl | exact .inr rfl))
    (r_cons (r_set (i := 4) sc__law_any.nd rfl (by first | exact Or.inl rfl | exact Or.inr rfl) (r_lstO r_anil) rfl (by first | exact .inl rfl | exact .inr rfl))
    (r_cons (r_for PassesOwn.never rfl (r_range1 (by rfl) T.z_range (r_call (G__law_take.mono (by omega)) hr (by rfl) (aCons_len (aCons_len aNil_len)) (r_acons (r_var (pv 0)) (r_acons (q_add (r_var (pv 1)) r_int) r_anil)))) (pg_name (i := 5) sc__law_any.nd rfl (by first | exact Or.inl rfl | exact Or.inr rfl)) (tgOk_name (i := 5) (vs := [5]) (by decide)) (r_cons (r_set (i := 6) sc__law_any.nd rfl (by first | exact Or.inl rfl | exact Or.inr rfl) (r_call (G__law_take.mono (by omega)) hr (by rfl) (aCons_len (aCons_len aNil_len)) (r_acons (r_var (pv 0)) (r_acons (q_sub (r_var (pv 3)) r_int) r_anil))) rfl (by first | exact .inl rfl | exact .inr rfl))
    (r_one (r_expr (r_app (r_var (pv 4)) (r_tup (r_acons (r_var (pv 6)) (r_acons (q_add (q_add (r_var (pv 6)) r_int) (r_call (G__law_take.mono (by omega)) hr (by rfl) (aCons_len (aCons_len aNil_len)) (r_acons (r_var (pv 0)) (r_acons (q_sub (q_sub (r_var (pv 3)) r_int) (r_var (pv 6))) r_anil)))) r_anil))))))))
    (r_one (r_ret (r_tup (r_acons (r_var (pv 3)) (r_acons (q_tuple T.z_tuple (r_var (pv 4))) r_anil)))))))))))
abbrev s__law_few : Stmt := topS 26
theorem sc__law_few : FnScope ["deal", "people", "meetings", "turn", "a"] ["deal"] (defScope s__law_few) := ⟨rfl, rfl, rfl, by decide +kernel, rfl, by decide +kernel, by decide +kernel⟩
theorem ok__law_few {a : Addr} {fd : FuncData} (T : Tops K mg) (Z : At K mg "_law_few" ["deal"] s__law_few a fd) (G__law_take : Fn P w K mg base 1 "_law_take" 2 m__law_take) : Fn P w K mg base 2 "_law_few" 1 m__law_few := by
  refine fn_at (lev := 1) (n := 1) (k := 4) (body := b__law_few) Z sc__law_few rfl rfl ?_
  intro cdv A outer s H E hr
  exact (r_cons (r_set (i := 1) sc__law_few.nd rfl (by first | exact Or.inl rfl | exact Or.inr rfl) (q_sub r_int (r_call (G__law_take.mono (by omega)) hr (by rfl) (aCons_len (aCons_len aNil_len)) (r_acons (r_var (pv 0)) (r_acons r_int r_anil)))) rfl (by first | exact .inl rfl | exact .inr rfl))
    (r_cons (r_set (i := 2) sc__law_few.nd rfl (by first | exact Or.inl rfl | exact Or.inr rfl) (r_lstO r_anil) rfl (by first | exact .inl rfl | exact .inr rfl))
    (r_cons (r_for PassesOwn.never rfl (r_range1 (by rfl) T.z_range (r_call (G__law_take.mono (by omega)) hr (by rfl) (aCons_len (aCons_len aNil_len)) (r_acons (r_var (pv 0)) (r_acons r_int r_anil)))) (pg_name (i := 3) sc__law_few.nd rfl (by first | exact Or.inl rfl | exact Or.inr rfl)) (tgOk_name (i := 3) (vs := [3]) (by decide)) (r_one (r_ifS (q_cmpT c_gt (r_var (pv 1)) r_int) (r_cons (r_set (i := 4) sc__law_few.nd rfl (by first | exact Or.inl rfl | exact Or.inr rfl) (r_call (G__law_take.mono (by omega)) hr (by rfl) (aCons_len (aCons_len aNil_len)) (r_acons (r_var (pv 0)) (r_acons (q_sub (r_var (pv 1)) r_int) r_anil))) rfl (by first | exact .inl rfl | exact .inr rfl))
    (r_one (r_expr (r_app (r_var (pv 2)) (r_tup (r_acons (r_var (pv 4)) (r_acons (q_add (q_add (r_var (pv 4)) r_int) (r_call (G__law_take.mono (by omega)) hr (by rfl) (aCons_len (aCons_len aNil_len)) (r_acons (r_var (pv 0)) (r_acons (q_sub (q_sub (r_var (pv 1)) r_int) (r_var (pv 4))) r_anil)))) r_anil))))))) r_nil)))
    (r_one (r_ret (r_tup (r_acons (r_var (pv 1)) (r_acons (q_tuple T.z_tuple (r_var (pv 2))) r_anil))))))))
abbrev s__law_web : Stmt := topS 27
theorem sc__law_web : FnScope ["deal", "limit"] ["deal", "limit"] (defScope s__law_web) := ⟨rfl, rfl, rfl, by decide +kernel, rfl, by decide +kernel, by decide +kernel⟩
theorem ok__law_web {a : Addr} {fd : FuncData} (T : Tops K mg) (Z : At K mg "_law_web" ["deal", "limit"] s__law_web a fd) (G__law_any : Fn P w K mg base 3 "_law_any" 2 m__law_any) (G__law_few : Fn P w K mg base 2 "_law_few" 1 m__law_few) (G__law_take : Fn P w K mg base 1 "_law_take" 2 m__law_take) : Fn P w K mg base 4 "_law_web" 2 m__law_web := by
  refine fn_at (lev := 3) (n := 2) (k := 0) (body := b__law_web) Z sc__law_web rfl rfl ?_
  intro cdv A outer s H E hr
  exact (r_one (r_ret (r_if (q_cmpT (c_eq (u64 hr)) (r_call (G__law_take.mono (by omega)) hr (by rfl) (aCons_len (aCons_len aNil_len)) (r_acons (r_var (pv 0)) (r_acons r_int r_anil))) r_int) (r_call (G__law_few.mono (by omega)) hr (by rfl) (aCons_len aNil_len) (r_acons (r_var (pv 0)) r_anil)) (r_call (G__law_any.mono (by omega)) hr (by rfl) (aCons_len (aCons_len aNil_len)) (r_acons (r_var (pv 0)) (r_acons (r_var (pv 1)) r_anil))))))
abbrev s__law_order : Stmt := topS 28
theorem sc__law_order : FnScope ["deal", "many", "left", "order", "turn", "x"] ["deal", "many"] (defScope s__law_order) := ⟨rfl, rfl, rfl, by decide +kernel, rfl, by decide +kernel, by decide +kernel⟩
theorem ok__law_order {a : Addr} {fd : FuncData} (T : Tops K mg) (Z : At K mg "_law_order" ["deal", "many"] s__law_order a fd) (G__law_take : Fn P w K mg base 1 "_law_take" 2 m__law_take) : Fn P w K mg base 2 "_law_order" 2 m__law_order := by
  refine fn_at (lev := 1) (n := 2) (k := 4) (body := b__law_order) Z sc__law_order rfl rfl ?_
  intro cdv A outer s H E hr
  exact (r_cons (r_set (i := 2) sc__law_order.nd rfl (by first | exact Or.inl rfl | exact Or.inr rfl) (r_listRg rfl (by rfl) T.z_list (by rfl) T.z_range (r_var (pv 1))) rfl (by first | exact .inl rfl | exact .inr rfl))
    (r_cons (r_set (i := 3) sc__law_order.nd rfl (by first | exact Or.inl rfl | exact Or.inr rfl) (r_lstO r_anil) rfl (by first | exact .inl rfl | exact .inr rfl))
    (r_cons (r_for PassesOwn.never rfl (r_range1 (by rfl) T.z_range (r_var (pv 1))) (pg_name (i := 4) sc__law_order.nd rfl (by first | exact Or.inl rfl | exact Or.inr rfl)) (tgOk_name (i := 4) (vs := [4]) (by decide)) (r_cons (r_expr (r_app (r_var (pv 3)) (q_ix (r_var (pv 2)) (r_call (G__law_take.mono (by omega)) hr (by rfl) (aCons_len (aCons_len aNil_len)) (r_acons (r_var (pv 0)) (r_acons (q_len T.z_len (r_var (pv 2))) r_anil))))))
    (r_one (r_setLc (i := 2) (own := [("x", 5)]) rfl sc__law_order.nd rfl rfl (sw_true rfl rfl rfl (by decide +kernel)) (r_iter (r_var (pv 2))) (blkOk_by (by kernel_rfl)) (tgOk_name (i := 5) (vs := [5]) (by decide)) (fun _ _ _ _ _ => (pg_name (i := 5) sc__law_order.nd rfl (by first | exact Or.inl rfl | exact Or.inr rfl))) (fun _ _ _ _ _ => (r_ifs1 (q_cmpT (c_ne (u64 hr)) (r_var (pv 5)) (q_ix (r_var (pv 3)) (r_neg r_int))))) (fun _ _ _ _ _ => (r_var (pv 5)))))))
    (r_one (r_ret (r_var (pv 3)))))))
abbrev s__law_sides : Stmt := topS 29
theorem sc__law_sides : FnScope ["web", "sides", "start", "turn", "a", "b"] ["web"] (defScope s__law_sides) := ⟨rfl, rfl, rfl, by decide +kernel, rfl, by decide +kernel, by decide +kernel⟩
theorem ok__law_sides {a : Addr} {fd : FuncData} (T : Tops K mg) (Z : At K mg "_law_sides" ["web"] s__law_sides a fd) : Fn P w K mg base 1 "_law_sides" 1 m__law_sides := by
  refine fn_at (lev := 0) (n := 1) (k := 5) (body := b__law_sides) Z sc__law_sides rfl rfl ?_
  intro cdv A outer s H E hr
  exact (r_cons (r_set (i := 1) sc__law_sides.nd rfl (by first | exact Or.inl rfl | exact Or.inr rfl) (q_repO (r_lst (r_acons r_non r_anil)) (q_ix (r_var (pv 0)) r_int)) rfl (by first | exact .inl rfl | exact .inr rfl))
    (r_cons (r_for PassesOwn.never rfl (r_range1 (by rfl) T.z_range (q_ix (r_var (pv 0)) r_int)) (pg_name (i := 2) sc__law_sides.nd rfl (by first | exact Or.inl rfl | exact Or.inr rfl)) (tgOk_name (i := 2) (vs := [2]) (by decide)) (r_one (r_ifS (q_cmpT c_is (q_ix (r_var (pv 1)) (r_var (pv 2))) r_non) (r_cons (r_putL (r_var (pv 1)) (r_var (pv 2)) r_int)
    (r_one (r_for PassesOwn.never rfl (r_range1 (by rfl) T.z_range (q_len T.z_len (q_ix (r_var (pv 0)) r_int))) (pg_name (i := 3) sc__law_sides.nd rfl (by first | exact Or.inl rfl | exact Or.inr rfl)) (tgOk_name (i := 3) (vs := [3]) (by decide)) (r_one (r_for PassesOwn.never rfl (r_iter (q_ix (r_var (pv 0)) r_int)) (g_tup (is := [4, 5]) rfl (pgs_cons (pg_name (i := 4) sc__law_sides.nd rfl (by first | exact Or.inl rfl | exact Or.inr rfl)) (pgs_cons (pg_name (i := 5) sc__law_sides.nd rfl (by first | exact Or.inl rfl | exact Or.inr rfl)) pgs_nil))) (tgOk_tup (is := [4, 5]) (vs := [4, 5]) rfl (by decide)) (r_cons (r_ifS (r_and (q_cmpT c_isnt (q_ix (r_var (pv 1)) (r_var (pv 4))) r_non) (r_and1 (q_cmpT c_is (q_ix (r_var (pv 1)) (r_var (pv 5))) r_non))).pt (r_one (r_putL (r_var (pv 1)) (r_var (pv 5)) (q_sub r_int (q_ix (r_var (pv 1)) (r_var (pv 4)))))) r_nil)
    (r_one (r_ifS (r_and (q_cmpT c_isnt (q_ix (r_var (pv 1)) (r_var (pv 5))) r_non) (r_and1 (q_cmpT c_is (q_ix (r_var (pv 1)) (r_var (pv 4))) r_non))).pt (r_one (r_putL (r_var (pv 1)) (r_var (pv 4)) (q_sub r_int (q_ix (r_var (pv 1)) (r_var (pv 5)))))) r_nil)))))))) r_nil)))
    (r_one (r_ret (r_var (pv 1))))))
abbrev s__law_rows : Stmt := topS 30
theorem sc__law_rows : FnScope ["web", "rows", "p", "one"] ["web"] (defScope s__law_rows) := ⟨rfl, rfl, rfl, by decide +kernel, rfl, by decide +kernel, by decide +kernel⟩
theorem ok__law_rows {a : Addr} {fd : FuncData} (T : Tops K mg) (Z : At K mg "_law_rows" ["web"] s__law_rows a fd) : Fn P w K mg base 1 "_law_rows" 1 m__law_rows := by
  refine fn_at (lev := 0) (n := 1) (k := 3) (body := b__law_rows) Z sc__law_rows rfl rfl ?_
  intro cdv A outer s H E hr
  exact (r_cons (r_set (i := 1) sc__law_rows.nd rfl (by first | exact Or.inl rfl | exact Or.inr rfl) (r_lst (r_acons (r_tup r_anil) r_anil)) rfl (by first | exact .inl rfl | exact .inr rfl))
    (r_cons (r_for PassesOwn.never rfl (r_range1 (by rfl) T.z_range (q_ix (r_var (pv 0)) r_int)) (pg_name (i := 2) sc__law_rows.nd rfl (by first | exact Or.inl rfl | exact Or.inr rfl)) (tgOk_name (i := 2) (vs := [2]) (by decide)) (r_one (r_set (i := 1) sc__law_rows.nd rfl (by first | exact Or.inl rfl | exact Or.inr rfl) (q_add (r_var (pv 1)) (r_lc (own := [("one", 3)]) rfl sc__law_rows.nd (r_iter (r_var (pv 1))) (blkOk_by (by kernel_rfl)) (tgOk_name (i := 3) (vs := [3]) (by decide)) (fun _ _ _ _ _ => (pg_name (i := 3) sc__law_rows.nd rfl (by first | exact Or.inl rfl | exact Or.inr rfl))) (fun _ _ _ _ _ => r_ifs0) (fun _ _ _ _ _ => (q_add (r_var (pv 3)) (r_tup (r_acons (r_var (pv 2)) r_anil)))))) rfl (by first | exact .inl rfl | exact .inr rfl))))
    (r_one (r_ret (r_var (pv 1))))))
abbrev s__law_sorted : Stmt := topS 31
theorem sc__law_sorted : FnScope ["web", "people", "n"] ["web", "people"] (defScope s__law_sorted) := ⟨rfl, rfl, rfl, by decide +kernel, rfl, by decide +kernel, by decide +kernel⟩
theorem ok__law_sorted {a : Addr} {fd : FuncData} (T : Tops K mg) (Z : At K mg "_law_sorted" ["web", "people"] s__law_sorted a fd) : Fn P w K mg base 1 "_law_sorted" 2 m__law_sorted := by
  refine fn_at (lev := 0) (n := 2) (k := 1) (body := b__law_sorted) Z sc__law_sorted rfl rfl ?_
  intro cdv A outer s H E hr
  exact (r_cons (r_for PassesOwn.never rfl (r_range1 (by rfl) T.z_range (q_len T.z_len (r_var (pv 1)))) (pg_name (i := 2) sc__law_sorted.nd rfl (by first | exact Or.inl rfl | exact Or.inr rfl)) (tgOk_name (i := 2) (vs := [2]) (by decide)) (r_one (r_ifS (r_or (r_not (q_chainT c_le c_lt r_int (q_ix (r_var (pv 1)) (r_var (pv 2))) (q_ix (r_var (pv 0)) r_int))) (r_or1 (r_and (q_cmpT c_gt (r_var (pv 2)) r_int) (r_and1 (q_cmpT c_ge (q_ix (r_var (pv 1)) (q_sub (r_var (pv 2)) r_int)) (q_ix (r_var (pv 1)) (r_var (pv 2)))))).pt)).pt (r_one (r_ret r_bl)) r_nil)))
    (r_one (r_ret r_bl)))
abbrev s__law_inside : Stmt := topS 32
theorem sc__law_inside : FnScope ["web", "people", "a", "b"] ["web", "people"] (defScope s__law_inside) := ⟨rfl, rfl, rfl, by decide +kernel, rfl, by decide +kernel, by decide +kernel⟩
theorem ok__law_inside {a : Addr} {fd : FuncData} (T : Tops K mg) (Z : At K mg "_law_inside" ["web", "people"] s__law_inside a fd) : Fn P w K mg base 1 "_law_inside" 2 m__law_inside := by
  refine fn_at (lev := 0) (n := 2) (k := 2) (body := b__law_inside) Z sc__law_inside rfl rfl ?_
  intro cdv A outer s H E hr
  exact (r_one (r_ret (q_len T.z_len (r_lc (own := [("a", 2), ("b", 3)]) rfl sc__law_inside.nd (r_iter (q_ix (r_var (pv 0)) r_int)) (blkOk_by (by kernel_rfl)) (tgOk_tup (is := [2, 3]) (vs := [2, 3]) rfl (by decide)) (fun _ _ _ _ _ => (g_tup (is := [2, 3]) rfl (pgs_cons (pg_name (i := 2) sc__law_inside.nd rfl (by first | exact Or.inl rfl | exact Or.inr rfl)) (pgs_cons (pg_name (i := 3) sc__law_inside.nd rfl (by first | exact Or.inl rfl | exact Or.inr rfl)) pgs_nil)))) (fun _ _ _ _ _ => (r_ifs1 (r_and (q_cmpT (c_in (u65 hr)) (r_var (pv 2)) (r_var (pv 1))) (r_and1 (q_cmpT (c_in (u65 hr)) (r_var (pv 3)) (r_var (pv 1))))).pt)) (fun _ _ _ _ _ => r_int)))))
abbrev s__law_crowds : Stmt := topS 33
theorem sc__law_crowds : FnScope ["deal", "half", "size", "first", "k", "people", "pairs", "a", "meetings", "outside", "more", "at", "ones", "web", "rows", "row", "due", "n", "p", "b"] ["deal"] (defScope s__law_crowds) := ⟨rfl, rfl, rfl, by decide +kernel, rfl, by decide +kernel, by decide +kernel⟩
theorem ok__law_crowds {a : Addr} {fd : FuncData} (T : Tops K mg) (Z : At K mg "_law_crowds" ["deal"] s__law_crowds a fd) (G__law_bool : Fn P w K mg base 1 "_law_bool" 2 m__law_bool) (G__law_inside : Fn P w K mg base 1 "_law_inside" 2 m__law_inside) (G__law_sorted : Fn P w K mg base 1 "_law_sorted" 2 m__law_sorted) (G__law_take : Fn P w K mg base 1 "_law_take" 2 m__law_take) (G_shows_crowd : Fn P w K mg base 2 "shows_crowd" 3 m_shows_crowd) : Fn P w K mg base 3 "_law_crowds" 1 m__law_crowds := by
  refine fn_at (lev := 2) (n := 1) (k := 19) (body := b__law_crowds) Z sc__law_crowds rfl rfl ?_
  intro cdv A outer s H E hr
  exact (r_cons (r_set (i := 1) sc__law_crowds.nd rfl (by first | exact Or.inl rfl | exact Or.inr rfl) (q_add r_int (r_call (G__law_take.mono (by omega)) hr (by rfl) (aCons_len (aCons_len aNil_len)) (r_acons (r_var (pv 0)) (r_acons r_int r_anil)))) rfl (by first | exact .inl rfl | exact .inr rfl))
    (r_cons (r_set (i := 2) sc__law_crowds.nd rfl (by first | exact Or.inl rfl | exact Or.inr rfl) (q_add (q_mul r_int (r_var (pv 1))) r_int) rfl (by first | exact .inl rfl | exact .inr rfl))
    (r_cons (r_set (i := 3) sc__law_crowds.nd rfl (by first | exact Or.inl rfl | exact Or.inr rfl) (r_call (G__law_take.mono (by omega)) hr (by rfl) (aCons_len (aCons_len aNil_len)) (r_acons (r_var (pv 0)) (r_acons r_int r_anil))) rfl (by first | exact .inl rfl | exact .inr rfl))
    (r_cons (r_set (i := 4) sc__law_crowds.nd rfl (by first | exact Or.inl rfl | exact Or.inr rfl) (r_call (G__law_take.mono (by omega)) hr (by rfl) (aCons_len (aCons_len aNil_len)) (r_acons (r_var (pv 0)) (r_acons r_int r_anil))) rfl (by first | exact .inl rfl | exact .inr rfl))
    (r_cons (r_set (i := 5) sc__law_crowds.nd rfl (by first | exact Or.inl rfl | exact Or.inr rfl) (q_tuple T.z_tuple (r_lc (own := [("n", 17)]) rfl sc__law_crowds.nd (r_range1 (by rfl) T.z_range (r_var (pv 2))) (blkOk_by (by kernel_rfl)) (tgOk_name (i := 17) (vs := [17]) (by decide)) (fun _ _ _ _ _ => (pg_name (i := 17) sc__law_crowds.nd rfl (by first | exact Or.inl rfl | exact Or.inr rfl))) (fun _ _ _ _ _ => r_ifs0) (fun _ _ _ _ _ => (q_add (r_var (pv 3)) (r_var (pv 17)))))) rfl (by first | exact .inl rfl | exact .inr rfl))
    (r_cons (r_set (i := 6) sc__law_crowds.nd rfl (by first | exact Or.inl rfl | exact Or.inr rfl) (r_lst r_anil) rfl (by first | exact .inl rfl | exact .inr rfl))
    (r_cons (r_for PassesOwn.never rfl (r_range1 (by rfl) T.z_range (r_var (pv 2))) (pg_name (i := 7) sc__law_crowds.nd rfl (by first | exact Or.inl rfl | exact Or.inr rfl)) (tgOk_name (i := 7) (vs := [7]) (by decide)) (r_one (r_set (i := 6) sc__law_crowds.nd rfl (by first | exact Or.inl rfl | exact Or.inr rfl) (q_add (r_var (pv 6)) (r_lc (own := [("b", 19)]) rfl sc__law_crowds.nd (r_range2 (by rfl) T.z_range (q_add (r_var (pv 7)) r_int) (r_var (pv 2))) (blkOk_by (by kernel_rfl)) (tgOk_name (i := 19) (vs := [19]) (by decide)) (fun _ _ _ _ _ => (pg_name (i := 19) sc__law_crowds.nd rfl (by first | exact Or.inl rfl | exact Or.inr rfl))) (fun _ _ _ _ _ => r_ifs0) (fun _ _ _ _ _ => (r_tup (r_acons (q_ix (r_var (pv 5)) (r_var (pv 7))) (r_acons (q_ix (r_var (pv 5)) (r_var (pv 19))) r_anil)))))) rfl (by first | exact .inl rfl | exact .inr rfl))))
    (r_cons (r_setLc (i := 8) (own := [("n", 17)]) rfl sc__law_crowds.nd rfl rfl (sw_true rfl rfl rfl (by decide +kernel)) (r_range1 (by rfl) T.z_range (q_mul (r_var (pv 4)) (r_var (pv 1)))) (blkOk_by (by kernel_rfl)) (tgOk_name (i := 17) (vs := [17]) (by decide)) (fun _ _ _ _ _ => (pg_name (i := 17) sc__law_crowds.nd rfl (by first | exact Or.inl rfl | exact Or.inr rfl))) (fun _ _ _ _ _ => r_ifs0) (fun _ _ _ _ _ => (q_ix (r_var (pv 6)) (r_call (G__law_take.mono (by omega)) hr (by rfl) (aCons_len (aCons_len aNil_len)) (r_acons (r_var (pv 0)) (r_acons (q_len T.z_len (r_var (pv 6))) r_anil))))))
    (r_cons (r_setLc (i := 9) (own := [("p", 18)]) rfl sc__law_crowds.nd rfl rfl (sw_true rfl rfl rfl (by decide +kernel)) (r_range1 (by rfl) T.z_range (q_add (r_var (pv 3)) (r_var (pv 2)))) (blkOk_by (by kernel_rfl)) (tgOk_name (i := 18) (vs := [18]) (by decide)) (fun _ _ _ _ _ => (pg_name (i := 18) sc__law_crowds.nd rfl (by first | exact Or.inl rfl | exact Or.inr rfl))) (fun _ _ _ _ _ => r_ifs0) (fun _ _ _ _ _ => (r_tup (r_acons (r_var (pv 18)) (r_acons (q_add (r_var (pv 3)) (r_var (pv 2))) r_anil)))))
    (r_cons (r_set (i := 10) sc__law_crowds.nd rfl (by first | exact Or.inl rfl | exact Or.inr rfl) (q_ix (r_var (pv 6)) (r_call (G__law_take.mono (by omega)) hr (by rfl) (aCons_len (aCons_len aNil_len)) (r_acons (r_var (pv 0)) (r_acons (q_len T.z_len (r_var (pv 6))) r_anil)))) rfl (by first | exact .inl rfl | exact .inr rfl))
    (r_cons (r_set (i := 11) sc__law_crowds.nd rfl (by first | exact Or.inl rfl | exact Or.inr rfl) (r_call (G__law_take.mono (by omega)) hr (by rfl) (aCons_len (aCons_len aNil_len)) (r_acons (r_var (pv 0)) (r_acons (r_var (pv 2)) r_anil))) rfl (by first | exact .inl rfl | exact .inr rfl))
    (r_cons (r_for PassesOwn.never rfl (r_iter (r_lst (r_acons (r_var (pv 8)) (r_acons (q_add (r_var (pv 8)) (r_lst (r_acons (r_var (pv 10)) r_anil))) r_anil)))) (pg_name (i := 12) sc__law_crowds.nd rfl (by first | exact Or.inl rfl | exact Or.inr rfl)) (tgOk_name (i := 12) (vs := [12]) (by decide)) (r_cons (r_set (i := 13) sc__law_crowds.nd rfl (by first | exact Or.inl rfl | exact Or.inr rfl) (r_tup (r_acons (q_add (q_add (r_var (pv 3)) (r_var (pv 2))) r_int) (r_acons (q_tuple T.z_tuple (q_add (r_var (pv 9)) (r_var (pv 12)))) r_anil))) rfl (by first | exact .inl rfl | exact .inr rfl))
    (r_cons (r_set (i := 14) sc__law_crowds.nd rfl (by first | exact Or.inl rfl | exact Or.inr rfl) (r_lst (r_acons (r_var (pv 5)) (r_acons (r_sl (r_var (pv 5)) r_onone (r_osome (r_neg r_int))) (r_acons (r_rev (r_var (pv 5))) (r_acons (q_add (q_add (r_sl (r_var (pv 5)) r_onone (r_osome (r_var (pv 11)))) (r_tup (r_acons (q_ix (r_var (pv 5)) (q_sub (r_var (pv 11)) r_int)) r_anil))) (r_sl (r_var (pv 5)) (r_osome (q_add (r_var (pv 11)) r_int)) r_onone)) (r_acons (q_add (r_sl (r_var (pv 5)) r_onone (r_osome r_int)) (r_sl (r_var (pv 5)) r_onone (r_osome r_int))) r_anil)))))) rfl (by first | exact .inl rfl | exact .inr rfl))
    (r_cons (r_set (i := 14) sc__law_crowds.nd rfl (by first | exact Or.inl rfl | exact Or.inr rfl) (q_add (r_var (pv 14)) (r_lst (r_acons (q_add (q_add (r_sl (r_var (pv 5)) r_onone (r_osome (r_var (pv 11)))) (r_tup (r_acons (r_neg r_int) r_anil))) (r_sl (r_var (pv 5)) (r_osome (q_add (r_var (pv 11)) r_int)) r_onone)) (r_acons (q_add (r_sl (r_var (pv 5)) r_onone (r_osome (r_neg r_int))) (r_tup (r_acons (q_add (q_add (r_var (pv 3)) (r_var (pv 2))) r_int) r_anil))) (r_acons (q_add (r_var (pv 5)) (r_tup (r_acons (q_add (r_var (pv 3)) (r_var (pv 2))) r_anil))) r_anil))))) rfl (by first | exact .inl rfl | exact .inr rfl))
    (r_cons (r_for PassesOwn.never rfl (r_iter (q_add (r_var (pv 14)) (r_lst (r_acons (q_add (r_var (pv 5)) (r_var (pv 5))) (r_acons (r_sl (r_var (pv 5)) r_onone (r_osome r_int)) (r_acons (r_tup r_anil) (r_acons (r_sl (r_var (pv 5)) r_onone (r_osome (r_neg r_int))) (r_acons (q_add (r_sl (r_var (pv 5)) (r_osome r_int) r_onone) (r_tup (r_acons (q_add (r_var (pv 3)) (r_var (pv 2))) r_anil))) r_anil)))))))) (pg_name (i := 15) sc__law_crowds.nd rfl (by first | exact Or.inl rfl | exact Or.inr rfl)) (tgOk_name (i := 15) (vs := [15]) (by decide)) (r_cons (r_set (i := 16) sc__law_crowds.nd rfl (by first | exact Or.inl rfl | exact Or.inr rfl) (r_eand (r_call (G__law_sorted.mono (by omega)) hr (by rfl) (aCons_len (aCons_len aNil_len)) (r_acons (r_var (pv 13)) (r_acons (r_var (pv 15)) r_anil))) (r_eand (q_cmp (c_eq (u64 hr)) (q_mod (q_len T.z_len (r_var (pv 15))) r_int) r_int) (r_eand (q_cmp c_gt (q_len T.z_len (r_var (pv 15))) r_int) (r_eone (q_cmp c_gt (r_call (G__law_inside.mono (by omega)) hr (by rfl) (aCons_len (aCons_len aNil_len)) (r_acons (r_var (pv 13)) (r_acons (r_var (pv 15)) r_anil))) (q_mul (r_var (pv 4)) (q_div (q_len T.z_len (r_var (pv 15))) r_int))))))) rfl (by first | exact .inl rfl | exact .inr rfl))
    (r_one (r_ifS (r_not (r_val (r_call (G__law_bool.mono (by omega)) hr (by rfl) (aCons_len (aCons_len aNil_len)) (r_acons (r_call (G_shows_crowd.mono (by omega)) hr (by rfl) (aCons_len (aCons_len (aCons_len aNil_len))) (r_acons (r_var (pv 13)) (r_acons (r_var (pv 4)) (r_acons (r_var (pv 15)) r_anil)))) (r_acons (r_var (pv 16)) r_anil))))) (r_one (r_ret r_bl)) r_nil))))
    (r_one (r_ifS (r_not (r_val (r_call (G__law_bool.mono (by omega)) hr (by rfl) (aCons_len (aCons_len aNil_len)) (r_acons (r_call (G_shows_crowd.mono (by omega)) hr (by rfl) (aCons_len (aCons_len (aCons_len aNil_len))) (r_acons (r_var (pv 13)) (r_acons (r_var (pv 4)) (r_acons (r_var (pv 5)) r_anil)))) (r_acons (q_cmp c_gt (q_len T.z_len (r_var (pv 12))) (q_mul (r_var (pv 4)) (r_var (pv 1)))) r_anil))))) (r_one (r_ret r_bl)) r_nil)))))))
    (r_one (r_ret r_bl))))))))))))))
abbrev s__law_busy : Stmt := topS 34
theorem sc__law_busy : FnScope ["web", "p", "mine", "k", "pair"] ["web"] (defScope s__law_busy) := ⟨rfl, rfl, rfl, by decide +kernel, rfl, by decide +kernel, by decide +kernel⟩
theorem ok__law_busy {a : Addr} {fd : FuncData} (T : Tops K mg) (Z : At K mg "_law_busy" ["web"] s__law_busy a fd) (G__law_bool : Fn P w K mg base 1 "_law_bool" 2 m__law_bool) (G_shows_busy : Fn P w K mg base 3 "shows_busy" 3 m_shows_busy) : Fn P w K mg base 4 "_law_busy" 1 m__law_busy := by
  refine fn_at (lev := 3) (n := 1) (k := 4) (body := b__law_busy) Z sc__law_busy rfl rfl ?_
  intro cdv A outer s H E hr
  exact (r_cons (r_for PassesOwn.never rfl (r_range1 (by rfl) T.z_range (q_ix (r_var (pv 0)) r_int)) (pg_name (i := 1) sc__law_busy.nd rfl (by first | exact Or.inl rfl | exact Or.inr rfl)) (tgOk_name (i := 1) (vs := [1]) (by decide)) (r_cons (r_set (i := 2) sc__law_busy.nd rfl (by first | exact Or.inl rfl | exact Or.inr rfl) (q_len T.z_len (r_lc (own := [("pair", 4)]) rfl sc__law_busy.nd (r_iter (q_ix (r_var (pv 0)) r_int)) (blkOk_by (by kernel_rfl)) (tgOk_name (i := 4) (vs := [4]) (by decide)) (fun _ _ _ _ _ => (pg_name (i := 4) sc__law_busy.nd rfl (by first | exact Or.inl rfl | exact Or.inr rfl))) (fun _ _ _ _ _ => (r_ifs1 (q_cmpT (c_in (u65 hr)) (r_var (pv 1)) (r_var (pv 4))))) (fun _ _ _ _ _ => r_int))) rfl (by first | exact .inl rfl | exact .inr rfl))
    (r_one (r_for PassesOwn.never rfl (r_range1 (by rfl) T.z_range (q_add (r_var (pv 2)) r_int)) (pg_name (i := 3) sc__law_busy.nd rfl (by first | exact Or.inl rfl | exact Or.inr rfl)) (tgOk_name (i := 3) (vs := [3]) (by decide)) (r_one (r_ifS (r_not (r_val (r_call (G__law_bool.mono (by omega)) hr (by rfl) (aCons_len (aCons_len aNil_len)) (r_acons (r_call (G_shows_busy.mono (by omega)) hr (by rfl) (aCons_len (aCons_len (aCons_len aNil_len))) (r_acons (r_var (pv 0)) (r_acons (r_var (pv 3)) (r_acons (r_var (pv 1)) r_anil)))) (r_acons (q_cmp c_lt (r_var (pv 3)) (r_var (pv 2))) r_anil))))) (r_one (r_ret r_bl)) r_nil))))))
    (r_one (r_ret (r_eand (r_call (G__law_bool.mono (by omega)) hr (by rfl) (aCons_len (aCons_len aNil_len)) (r_acons (r_call (G_shows_busy.mono (by omega)) hr (by rfl) (aCons_len (aCons_len (aCons_len aNil_len))) (r_acons (r_var (pv 0)) (r_acons r_int (r_acons (q_ix (r_var (pv 0)) r_int) r_anil)))) (r_acons r_bl r_anil))) (r_eone (r_call (G__law_bool.mono (by omega)) hr (by rfl) (aCons_len (aCons_len aNil_len)) (r_acons (r_call (G_shows_busy.mono (by omega)) hr (by rfl) (aCons_len (aCons_len (aCons_len aNil_len))) (r_acons (r_var (pv 0)) (r_acons r_int (r_acons (r_neg r_int) r_anil)))) (r_acons r_bl r_anil))))))))
abbrev s__law_sides_judged : Stmt := topS 35
theorem sc__law_sides_judged : FnScope ["deal", "web", "last", "sides", "side", "rows", "p", "row", "due", "a", "b"] ["deal", "web"] (defScope s__law_sides_judged) := ⟨rfl, rfl, rfl, by decide +kernel, rfl, by decide +kernel, by decide +kernel⟩
theorem ok__law_sides_judged {a : Addr} {fd : FuncData} (T : Tops K mg) (Z : At K mg "_law_sides_judged" ["deal", "web"] s__law_sides_judged a fd) (G__law_bool : Fn P w K mg base 1 "_law_bool" 2 m__law_bool) (G__law_sides : Fn P w K mg base 1 "_law_sides" 1 m__law_sides) (G__law_take : Fn P w K mg base 1 "_law_take" 2 m__law_take) (G_shows_sides : Fn P w K mg base 1 "shows_sides" 2 m_shows_sides) : Fn P w K mg base 2 "_law_sides_judged" 2 m__law_sides_judged := by
  refine fn_at (lev := 1) (n := 2) (k := 9) (body := b__law_sides_judged) Z sc__law_sides_judged rfl rfl ?_
  intro cdv A outer s H E hr
  exact (r_cons (r_set (i := 2) sc__law_sides_judged.nd rfl (by first | exact Or.inl rfl | exact Or.inr rfl) (q_sub (q_ix (r_var (pv 1)) r_int) r_int) rfl (by first | exact .inl rfl | exact .inr rfl))
    (r_cons (r_set (i := 3) sc__law_sides_judged.nd rfl (by first | exact Or.inl rfl | exact Or.inr rfl) (q_tuple T.z_tuple (r_call (G__law_sides.mono (by omega)) hr (by rfl) (aCons_len aNil_len) (r_acons (r_var (pv 1)) r_anil))) rfl (by first | exact .inl rfl | exact .inr rfl))
    (r_cons (r_set (i := 5) sc__law_sides_judged.nd rfl (by first | exact Or.inl rfl | exact Or.inr rfl) (r_lstO (r_acons (r_var (pv 3)) (r_acons (r_sl (r_var (pv 3)) (r_osome r_int) r_onone) (r_acons (q_add (r_var (pv 3)) (r_tup (r_acons r_int r_anil))) (r_acons (q_tuple T.z_tuple (r_lc (own := [("side", 4)]) rfl sc__law_sides_judged.nd (r_iter (r_var (pv 3))) (blkOk_by (by kernel_rfl)) (tgOk_name (i := 4) (vs := [4]) (by decide)) (fun _ _ _ _ _ => (pg_name (i := 4) sc__law_sides_judged.nd rfl (by first | exact Or.inl rfl | exact Or.inr rfl))) (fun _ _ _ _ _ => r_ifs0) (fun _ _ _ _ _ => (q_sub r_int (r_var (pv 4)))))) (r_acons (q_tuple T.z_tuple (r_lc (own := [("side", 4)]) rfl sc__law_sides_judged.nd (r_iter (r_var (pv 3))) (blkOk_by (by kernel_rfl)) (tgOk_name (i := 4) (vs := [4]) (by decide)) (fun _ _ _ _ _ => (pg_name (i := 4) sc__law_sides_judged.nd rfl (by first | exact Or.inl rfl | exact Or.inr rfl))) (fun _ _ _ _ _ => r_ifs0) (fun _ _ _ _ _ => (r_call (G__law_take.mono (by omega)) hr (by rfl) (aCons_len (aCons_len aNil_len)) (r_acons (r_var (pv 0)) (r_acons r_int r_anil)))))) r_anil)))))) rfl (by first | exact .inl rfl | exact .inr rfl))
    (r_cons (r_for PassesOwn.never rfl (r_iter (r_lst (r_acons (r_neg r_int) (r_acons r_int (r_acons r_int r_anil))))) (pg_name (i := 4) sc__law_sides_judged.nd rfl (by first | exact Or.inl rfl | exact Or.inr rfl)) (tgOk_name (i := 4) (vs := [4]) (by decide)) (r_one (r_expr (r_app (r_var (pv 5)) (q_add (r_sl (r_var (pv 3)) r_onone (r_osome (r_var (pv 2)))) (r_tup (r_acons (r_var (pv 4)) r_anil)))))))
    (r_cons (r_for PassesOwn.never rfl (r_range1 (by rfl) T.z_range (r_var (pv 2))) (pg_name (i := 6) sc__law_sides_judged.nd rfl (by first | exact Or.inl rfl | exact Or.inr rfl)) (tgOk_name (i := 6) (vs := [6]) (by decide)) (r_one (r_expr (r_app (r_var (pv 5)) (q_add (q_add (r_sl (r_var (pv 3)) r_onone (r_osome (r_var (pv 6)))) (r_tup (r_acons (q_sub r_int (q_ix (r_var (pv 3)) (r_var (pv 6)))) r_anil))) (r_sl (r_var (pv 3)) (r_osome (q_add (r_var (pv 6)) r_int)) r_onone))))))
    (r_cons (r_for PassesOwn.never rfl (r_iter (r_var (pv 5))) (pg_name (i := 7) sc__law_sides_judged.nd rfl (by first | exact Or.inl rfl | exact Or.inr rfl)) (tgOk_name (i := 7) (vs := [7]) (by decide)) (r_cons (r_set (i := 8) sc__law_sides_judged.nd rfl (by first | exact Or.inl rfl | exact Or.inr rfl) (r_eand (q_cmp (c_eq (u64 hr)) (q_len T.z_len (r_var (pv 7))) (q_ix (r_var (pv 1)) r_int)) (r_eone (q_cmp (c_eq (u64 hr)) (q_len T.z_len (r_lc (own := [("side", 4)]) rfl sc__law_sides_judged.nd (r_iter (r_var (pv 7))) (blkOk_by (by kernel_rfl)) (tgOk_name (i := 4) (vs := [4]) (by decide)) (fun _ _ _ _ _ => (pg_name (i := 4) sc__law_sides_judged.nd rfl (by first | exact Or.inl rfl | exact Or.inr rfl))) (fun _ _ _ _ _ => (r_ifs1 (q_cmpT (c_nin (u65 hr)) (r_var (pv 4)) (r_lst (r_acons r_int (r_acons r_int r_anil)))))) (fun _ _ _ _ _ => r_int))) r_int))) rfl (by first | exact .inl rfl | exact .inr rfl))
    (r_cons (r_set (i := 8) sc__law_sides_judged.nd rfl (by first | exact Or.inl rfl | exact Or.inr rfl) (r_eand (r_var (pv 8)) (r_eone (q_cmp (c_eq (u64 hr)) (q_len T.z_len (r_lc (own := [("a", 9), ("b", 10)]) rfl sc__law_sides_judged.nd (r_iter (q_ix (r_var (pv 1)) r_int)) (blkOk_by (by kernel_rfl)) (tgOk_tup (is := [9, 10]) (vs := [9, 10]) rfl (by decide)) (fun _ _ _ _ _ => (g_tup (is := [9, 10]) rfl (pgs_cons (pg_name (i := 9) sc__law_sides_judged.nd rfl (by first | exact Or.inl rfl | exact Or.inr rfl)) (pgs_cons (pg_name (i := 10) sc__law_sides_judged.nd rfl (by first | exact Or.inl rfl | exact Or.inr rfl)) pgs_nil)))) (fun _ _ _ _ _ => (r_ifs1 (q_cmpT (c_eq (u64 hr)) (q_ix (r_var (pv 7)) (r_var (pv 9))) (q_ix (r_var (pv 7)) (r_var (pv 10)))))) (fun _ _ _ _ _ => r_int))) r_int))) rfl (by first | exact .inl rfl | exact .inr rfl))
    (r_one (r_ifS (r_not (r_val (r_call (G__law_bool.mono (by omega)) hr (by rfl) (aCons_len (aCons_len aNil_len)) (r_acons (r_call (G_shows_sides.mono (by omega)) hr (by rfl) (aCons_len (aCons_len aNil_len)) (r_acons (r_var (pv 1)) (r_acons (r_var (pv 7)) r_anil))) (r_acons (r_var (pv 8)) r_anil))))) (r_one (r_ret r_bl)) r_nil)))))
    (r_one (r_ret r_bl))))))))
abbrev s__law_ring : Stmt := topS 36
theorem sc__law_ring : FnScope ["web", "people", "n", "a", "b"] ["web", "people"] (defScope s__law_ring) := ⟨rfl, rfl, rfl, by decide +kernel, rfl, by decide +kernel, by decide +kernel⟩
theorem ok__law_ring {a : Addr} {fd : FuncData} (T : Tops K mg) (Z : At K mg "_law_ring" ["web", "people"] s__law_ring a fd) : Fn P w K mg base 1 "_law_ring" 2 m__law_ring := by
  refine fn_at (lev := 0) (n := 2) (k := 3) (body := b__law_ring) Z sc__law_ring rfl rfl ?_
  intro cdv A outer s H E hr
  exact (r_cons (r_ifS (r_or (q_cmpT c_lt (q_len T.z_len (r_var (pv 1))) r_int) (r_or1 (q_cmpT (c_eq (u64 hr)) (q_mod (q_len T.z_len (r_var (pv 1))) r_int) r_int))).pt (r_one (r_ret r_bl)) r_nil)
    (r_cons (r_for PassesOwn.never rfl (r_range1 (by rfl) T.z_range (q_len T.z_len (r_var (pv 1)))) (pg_name (i := 2) sc__law_ring.nd rfl (by first | exact Or.inl rfl | exact Or.inr rfl)) (tgOk_name (i := 2) (vs := [2]) (by decide)) (r_one (r_ifS (q_cmpT (c_eq (u64 hr)) (q_len T.z_len (r_lc (own := [("a", 3), ("b", 4)]) rfl sc__law_ring.nd (r_iter (q_ix (r_var (pv 0)) r_int)) (blkOk_by (by kernel_rfl)) (tgOk_tup (is := [3, 4]) (vs := [3, 4]) rfl (by decide)) (fun _ _ _ _ _ => (g_tup (is := [3, 4]) rfl (pgs_cons (pg_name (i := 3) sc__law_ring.nd rfl (by first | exact Or.inl rfl | exact Or.inr rfl)) (pgs_cons (pg_name (i := 4) sc__law_ring.nd rfl (by first | exact Or.inl rfl | exact Or.inr rfl)) pgs_nil)))) (fun _ _ _ _ _ => (r_ifs1 (r_and (q_cmpT (c_in (u65 hr)) (q_ix (r_var (pv 1)) (q_sub (r_var (pv 2)) r_int)) (r_tup (r_acons (r_var (pv 3)) (r_acons (r_var (pv 4)) r_anil)))) (r_and (q_cmpT (c_in (u65 hr)) (q_ix (r_var (pv 1)) (r_var (pv 2))) (r_tup (r_acons (r_var (pv 3)) (r_acons (r_var (pv 4)) r_anil)))) (r_and1 (q_cmpT (c_ne (u64 hr)) (q_ix (r_var (pv 1)) (q_sub (r_var (pv 2)) r_int)) (q_ix (r_var (pv 1)) (r_var (pv 2))))))).pt)) (fun _ _ _ _ _ => r_int))) r_int) (r_one (r_ret r_bl)) r_nil)))
    (r_one (r_ret r_bl))))
abbrev s__law_rings : Stmt := topS 37
theorem sc__law_rings : FnScope ["deal", "n", "names", "web", "at", "turned", "rows", "row", "p"] ["deal"] (defScope s__law_rings) := ⟨rfl, rfl, rfl, by decide +kernel, rfl, by decide +kernel, by decide +kernel⟩
theorem ok__law_rings {a : Addr} {fd : FuncData} (T : Tops K mg) (Z : At K mg "_law_rings" ["deal"] s__law_rings a fd) (G__law_bool : Fn P w K mg base 1 "_law_bool" 2 m__law_bool) (G__law_order : Fn P w K mg base 2 "_law_order" 2 m__law_order) (G__law_ring : Fn P w K mg base 1 "_law_ring" 2 m__law_ring) (G__law_take : Fn P w K mg base 1 "_law_take" 2 m__law_take) (G_shows_ring : Fn P w K mg base 1 "shows_ring" 2 m_shows_ring) : Fn P w K mg base 3 "_law_rings" 1 m__law_rings := by
  refine fn_at (lev := 2) (n := 1) (k := 8) (body := b__law_rings) Z sc__law_rings rfl rfl ?_
  intro cdv A outer s H E hr
  exact (r_cons (r_set (i := 1) sc__law_rings.nd rfl (by first | exact Or.inl rfl | exact Or.inr rfl) (q_add r_int (r_call (G__law_take.mono (by omega)) hr (by rfl) (aCons_len (aCons_len aNil_len)) (r_acons (r_var (pv 0)) (r_acons r_int r_anil)))) rfl (by first | exact .inl rfl | exact .inr rfl))
    (r_cons (r_set (i := 2) sc__law_rings.nd rfl (by first | exact Or.inl rfl | exact Or.inr rfl) (r_call (G__law_order.mono (by omega)) hr (by rfl) (aCons_len (aCons_len aNil_len)) (r_acons (r_var (pv 0)) (r_acons (r_var (pv 1)) r_anil))) rfl (by first | exact .inl rfl | exact .inr rfl))
    (r_cons (r_set (i := 3) sc__law_rings.nd rfl (by first | exact Or.inl rfl | exact Or.inr rfl) (r_tup (r_acons (r_var (pv 1)) (r_acons (q_tuple T.z_tuple (r_lc (own := [("p", 8)]) rfl sc__law_rings.nd (r_range1 (by rfl) T.z_range (r_var (pv 1))) (blkOk_by (by kernel_rfl)) (tgOk_name (i := 8) (vs := [8]) (by decide)) (fun _ _ _ _ _ => (pg_name (i := 8) sc__law_rings.nd rfl (by first | exact Or.inl rfl | exact Or.inr rfl))) (fun _ _ _ _ _ => r_ifs0) (fun _ _ _ _ _ => (r_tup (r_acons (q_min2 rfl T.z_min (q_ix (r_var (pv 2)) (q_sub (r_var (pv 8)) r_int)) (q_ix (r_var (pv 2)) (r_var (pv 8)))) (r_acons (q_max2 rfl T.z_max (q_ix (r_var (pv 2)) (q_sub (r_var (pv 8)) r_int)) (q_ix (r_var (pv 2)) (r_var (pv 8)))) r_anil)))))) r_anil))) rfl (by first | exact .inl rfl | exact .inr rfl))
    (r_cons (r_set (i := 4) sc__law_rings.nd rfl (by first | exact Or.inl rfl | exact Or.inr rfl) (r_call (G__law_take.mono (by omega)) hr (by rfl) (aCons_len (aCons_len aNil_len)) (r_acons (r_var (pv 0)) (r_acons (r_var (pv 1)) r_anil))) rfl (by first | exact .inl rfl | exact .inr rfl))
    (r_cons (r_set (i := 5) sc__law_rings.nd rfl (by first | exact Or.inl rfl | exact Or.inr rfl) (q_add (r_sl (r_var (pv 2)) (r_osome (r_var (pv 4))) r_onone) (r_sl (r_var (pv 2)) r_onone (r_osome (r_var (pv 4))))) rfl (by first | exact .inl rfl | exact .inr rfl))
    (r_cons (r_set (i := 6) sc__law_rings.nd rfl (by first | exact Or.inl rfl | exact Or.inr rfl) (r_lst (r_acons (r_var (pv 2)) (r_acons (r_var (pv 5)) (r_acons (r_rev (r_var (pv 2))) (r_acons (r_sl (r_var (pv 2)) r_onone (r_osome (r_neg r_int))) (r_acons (q_add (r_var (pv 2)) (r_sl (r_var (pv 2)) r_onone (r_osome r_int))) (r_acons (q_add (r_var (pv 2)) (r_var (pv 2))) (r_acons (q_add (q_add (r_var (pv 2)) (r_var (pv 2))) (r_var (pv 2))) (r_acons (r_lst r_anil) (r_acons (r_sl (r_var (pv 2)) r_onone (r_osome r_int)) r_anil)))))))))) rfl (by first | exact .inl rfl | exact .inr rfl))
    (r_cons (r_set (i := 6) sc__law_rings.nd rfl (by first | exact Or.inl rfl | exact Or.inr rfl) (q_add (r_var (pv 6)) (r_lst (r_acons (q_add (r_var (pv 2)) (r_lst (r_acons (q_ix (r_var (pv 2)) r_int) (r_acons (q_ix (r_var (pv 2)) r_int) r_anil)))) (r_acons (r_lst (r_acons (q_ix (r_var (pv 2)) r_int) (r_acons (q_ix (r_var (pv 2)) r_int) (r_acons (q_ix (r_var (pv 2)) r_int) r_anil)))) (r_acons (q_add (r_var (pv 2)) (r_lst (r_acons (q_ix (r_var (pv 2)) (r_neg r_int)) (r_acons (q_ix (r_var (pv 2)) r_int) r_anil)))) (r_acons (q_mul (r_sl (r_var (pv 2)) r_onone (r_osome r_int)) r_int) r_anil)))))) rfl (by first | exact .inl rfl | exact .inr rfl))
    (r_cons (r_set (i := 6) sc__law_rings.nd rfl (by first | exact Or.inl rfl | exact Or.inr rfl) (q_add (r_var (pv 6)) (r_lst (r_acons (q_add (q_add (r_sl (r_var (pv 5)) r_onone (r_osome r_int)) (r_lst (r_acons (r_var (pv 1)) r_anil))) (r_sl (r_var (pv 5)) (r_osome r_int) r_onone)) (r_acons (q_add (r_lst (r_acons (r_neg r_int) r_anil)) (r_sl (r_var (pv 5)) (r_osome r_int) r_onone)) (r_acons (q_add (r_sl (r_var (pv 5)) r_onone (r_osome r_int)) (r_sl (r_var (pv 5)) (r_osome r_int) r_onone)) (r_acons (q_add (r_lst (r_acons (q_ix (r_var (pv 5)) r_int) (r_acons (q_ix (r_var (pv 5)) r_int) r_anil))) (r_sl (r_var (pv 5)) (r_osome r_int) r_onone)) r_anil)))))) rfl (by first | exact .inl rfl | exact .inr rfl))
    (r_cons (r_for PassesOwn.never rfl (r_iter (r_var (pv 6))) (pg_name (i := 7) sc__law_rings.nd rfl (by first | exact Or.inl rfl | exact Or.inr rfl)) (tgOk_name (i := 7) (vs := [7]) (by decide)) (r_one (r_ifS (r_not (r_val (r_call (G__law_bool.mono (by omega)) hr (by rfl) (aCons_len (aCons_len aNil_len)) (r_acons (r_call (G_shows_ring.mono (by omega)) hr (by rfl) (aCons_len (aCons_len aNil_len)) (r_acons (r_var (pv 3)) (r_acons (q_list T.z_list (r_var (pv 7))) r_anil))) (r_acons (r_call (G__law_ring.mono (by omega)) hr (by rfl) (aCons_len (aCons_len aNil_len)) (r_acons (r_var (pv 3)) (r_acons (r_var (pv 7)) r_anil))) r_anil))))) (r_one (r_ret r_bl)) r_nil)))
    (r_one (r_ret (r_call (G__law_bool.mono (by omega)) hr (by rfl) (aCons_len (aCons_len aNil_len)) (r_acons (r_call (G_shows_ring.mono (by omega)) hr (by rfl) (aCons_len (aCons_len aNil_len)) (r_acons (r_var (pv 3)) (r_acons (q_list T.z_list (r_var (pv 5))) r_anil))) (r_acons (q_cmp (c_eq (u64 hr)) (q_mod (r_var (pv 1)) r_int) r_int) r_anil))))))))))))))
abbrev s__law_odd : Stmt := topS 38
theorem sc__law_odd : FnScope ["web", "people", "p", "left", "marks", "turn", "a", "b", "low", "sizes", "mark", "size"] ["web", "people"] (defScope s__law_odd) := ⟨rfl, rfl, rfl, by decide +kernel, rfl, by decide +kernel, by decide +kernel⟩
theorem ok__law_odd {a : Addr} {fd : FuncData} (T : Tops K mg) (Z : At K mg "_law_odd" ["web", "people"] s__law_odd a fd) : Fn P w K mg base 1 "_law_odd" 2 m__law_odd := by
  refine fn_at (lev := 0) (n := 2) (k := 10) (body := b__law_odd) Z sc__law_odd rfl rfl ?_
  intro cdv A outer s H E hr
  exact (r_cons (r_set (i := 3) sc__law_odd.nd rfl (by first | exact Or.inl rfl | exact Or.inr rfl) (r_lc (own := [("p", 2)]) rfl sc__law_odd.nd (r_range1 (by rfl) T.z_range (q_ix (r_var (pv 0)) r_int)) (blkOk_by (by kernel_rfl)) (tgOk_name (i := 2) (vs := [2]) (by decide)) (fun _ _ _ _ _ => (pg_name (i := 2) sc__law_odd.nd rfl (by first | exact Or.inl rfl | exact Or.inr rfl))) (fun _ _ _ _ _ => (r_ifs1 (q_cmpT (c_nin (u65 hr)) (r_var (pv 2)) (r_var (pv 1))))) (fun _ _ _ _ _ => (r_var (pv 2)))) rfl (by first | exact .inl rfl | exact .inr rfl))
    (r_cons (r_set (i := 4) sc__law_odd.nd rfl (by first | exact Or.inl rfl | exact Or.inr rfl) r_dicO rfl (by first | exact .inl rfl | exact .inr rfl))
    (r_cons (r_for PassesOwn.never rfl (r_iter (r_var (pv 3))) (pg_name (i := 2) sc__law_odd.nd rfl (by first | exact Or.inl rfl | exact Or.inr rfl)) (tgOk_name (i := 2) (vs := [2]) (by decide)) (r_one (r_putD (hu_of hr) (r_var (pv 4)) (r_var (pv 2)) (r_var (pv 2)) rfl)))
    (r_cons (r_for PassesOwn.never rfl (r_range1 (by rfl) T.z_range (q_len T.z_len (r_var (pv 3)))) (pg_name (i := 5) sc__law_odd.nd rfl (by first | exact Or.inl rfl | exact Or.inr rfl)) (tgOk_name (i := 5) (vs := [5]) (by decide)) (r_one (r_for PassesOwn.never rfl (r_iter (q_ix (r_var (pv 0)) r_int)) (g_tup (is := [6, 7]) rfl (pgs_cons (pg_name (i := 6) sc__law_odd.nd rfl (by first | exact Or.inl rfl | exact Or.inr rfl)) (pgs_cons (pg_name (i := 7) sc__law_odd.nd rfl (by first | exact Or.inl rfl | exact Or.inr rfl)) pgs_nil))) (tgOk_tup (is := [6, 7]) (vs := [6, 7]) rfl (by decide)) (r_one (r_ifS (r_and (r_inDT (hu_of hr) (r_var (pv 6)) (r_var (pv 4))) (r_and1 (r_inDT (hu_of hr) (r_var (pv 7)) (r_var (pv 4))))).pt (r_cons (r_set (i := 8) sc__law_odd.nd rfl (by first | exact Or.inl rfl | exact Or.inr rfl) (q_min2 rfl T.z_min (r_getD (hu_of hr) (r_var (pv 4)) (r_var (pv 6)) (fun _ _ => rfl)) (r_getD (hu_of hr) (r_var (pv 4)) (r_var (pv 7)) (fun _ _ => rfl))) rfl (by first | exact .inl rfl | exact .inr rfl))
    (r_cons (r_putD (hu_of hr) (r_var (pv 4)) (r_var (pv 6)) (r_var (pv 8)) rfl)
    (r_one (r_putD (hu_of hr) (r_var (pv 4)) (r_var (pv 7)) (r_var (pv 8)) rfl)))) r_nil)))))
    (r_cons (r_setLc (i := 9) (own := [("mark", 10)]) rfl sc__law_odd.nd rfl rfl (sw_true rfl rfl rfl (by decide +kernel)) (r_iter (r_var (pv 3))) (blkOk_by (by kernel_rfl)) (tgOk_name (i := 10) (vs := [10]) (by decide)) (fun _ _ _ _ _ => (pg_name (i := 10) sc__law_odd.nd rfl (by first | exact Or.inl rfl | exact Or.inr rfl))) (fun _ _ _ _ _ => r_ifs0) (fun _ _ _ _ _ => (q_len T.z_len (r_lc (own := [("p", 2)]) rfl sc__law_odd.nd (r_iter (r_var (pv 3))) (blkOk_by (by kernel_rfl)) (tgOk_name (i := 2) (vs := [2]) (by decide)) (fun _ _ _ _ _ => (pg_name (i := 2) sc__law_odd.nd rfl (by first | exact Or.inl rfl | exact Or.inr rfl))) (fun _ _ _ _ _ => (r_ifs1 (q_cmpT (c_eq (u64 hr)) (r_getD (hu_of hr) (r_var (pv 4)) (r_var (pv 2)) (fun _ _ => rfl)) (r_var (pv 10))))) (fun _ _ _ _ _ => r_int)))))
    (r_one (r_ret (q_len T.z_len (r_lc (own := [("size", 11)]) rfl sc__law_odd.nd (r_iter (r_var (pv 9))) (blkOk_by (by kernel_rfl)) (tgOk_name (i := 11) (vs := [11]) (by decide)) (fun _ _ _ _ _ => (pg_name (i := 11) sc__law_odd.nd rfl (by first | exact Or.inl rfl | exact Or.inr rfl))) (fun _ _ _ _ _ => (r_ifs1 (q_cmpT (c_eq (u64 hr)) (q_mod (r_var (pv 11)) r_int) r_int))) (fun _ _ _ _ _ => r_int))))))))))
abbrev s__law_people : Stmt := topS 39
theorem sc__law_people : FnScope ["deal", "web", "rows", "turn", "row", "people", "good", "watched", "m", "number", "a", "b"] ["deal", "web"] (defScope s__law_people) := ⟨rfl, rfl, rfl, by decide +kernel, rfl, by decide +kernel, by decide +kernel⟩
theorem ok__law_people {a : Addr} {fd : FuncData} (T : Tops K mg) (Z : At K mg "_law_people" ["deal", "web"] s__law_people a fd) (G__law_bool : Fn P w K mg base 1 "_law_bool" 2 m__law_bool) (G__law_odd : Fn P w K mg base 1 "_law_odd" 2 m__law_odd) (G__law_rows : Fn P w K mg base 1 "_law_rows" 1 m__law_rows) (G__law_sorted : Fn P w K mg base 1 "_law_sorted" 2 m__law_sorted) (G__law_take : Fn P w K mg base 1 "_law_take" 2 m__law_take) (G_shows_bar : Fn P w K mg base 3 "shows_bar" 3 m_shows_bar) (G_shows_watch : Fn P w K mg base 2 "shows_watch" 2 m_shows_watch) : Fn P w K mg base 4 "_law_people" 2 m__law_people := by
  refine fn_at (lev := 3) (n := 2) (k := 10) (body := b__law_people) Z sc__law_people rfl rfl ?_
  intro cdv A outer s H E hr
  exact (r_cons (r_set (i := 2) sc__law_people.nd rfl (by first | exact Or.inl rfl | exact Or.inr rfl) (r_call (G__law_rows.mono (by omega)) hr (by rfl) (aCons_len aNil_len) (r_acons (r_var (pv 1)) r_anil)) rfl (by first | exact .inl rfl | exact .inr rfl))
    (r_cons (r_for PassesOwn.never rfl (r_range1 (by rfl) T.z_range r_int) (pg_name (i := 3) sc__law_people.nd rfl (by first | exact Or.inl rfl | exact Or.inr rfl)) (tgOk_name (i := 3) (vs := [3]) (by decide)) (r_cons (r_set (i := 4) sc__law_people.nd rfl (by first | exact Or.inl rfl | exact Or.inr rfl) (q_ix (r_var (pv 2)) (r_call (G__law_take.mono (by omega)) hr (by rfl) (aCons_len (aCons_len aNil_len)) (r_acons (r_var (pv 0)) (r_acons (q_len T.z_len (r_var (pv 2))) r_anil)))) rfl (by first | exact .inl rfl | exact .inr rfl))
    (r_one (r_for PassesOwn.never rfl (r_iter (r_lst (r_acons (r_var (pv 4)) (r_acons (q_add (r_var (pv 4)) (r_sl (r_var (pv 4)) r_onone (r_osome r_int))) (r_acons (r_rev (r_var (pv 4))) (r_acons (q_add (r_var (pv 4)) (r_tup (r_acons (q_ix (r_var (pv 1)) r_int) r_anil))) (r_acons (q_add (r_tup (r_acons (r_neg r_int) r_anil)) (r_var (pv 4))) (r_acons (r_sl (r_var (pv 4)) (r_osome r_int) r_onone) r_anil)))))))) (pg_name (i := 5) sc__law_people.nd rfl (by first | exact Or.inl rfl | exact Or.inr rfl)) (tgOk_name (i := 5) (vs := [5]) (by decide)) (r_cons (r_set (i := 6) sc__law_people.nd rfl (by first | exact Or.inl rfl | exact Or.inr rfl) (r_call (G__law_sorted.mono (by omega)) hr (by rfl) (aCons_len (aCons_len aNil_len)) (r_acons (r_var (pv 1)) (r_acons (r_var (pv 5)) r_anil))) rfl (by first | exact .inl rfl | exact .inr rfl))
    (r_cons (r_set (i := 7) sc__law_people.nd rfl (by first | exact Or.inl rfl | exact Or.inr rfl) (q_cmp (c_eq (u64 hr)) (q_len T.z_len (r_lc (own := [("a", 10), ("b", 11)]) rfl sc__law_people.nd (r_iter (q_ix (r_var (pv 1)) r_int)) (blkOk_by (by kernel_rfl)) (tgOk_tup (is := [10, 11]) (vs := [10, 11]) rfl (by decide)) (fun _ _ _ _ _ => (g_tup (is := [10, 11]) rfl (pgs_cons (pg_name (i := 10) sc__law_people.nd rfl (by first | exact Or.inl rfl | exact Or.inr rfl)) (pgs_cons (pg_name (i := 11) sc__law_people.nd rfl (by first | exact Or.inl rfl | exact Or.inr rfl)) pgs_nil)))) (fun _ _ _ _ _ => (r_ifs1 (r_and (q_cmpT (c_nin (u65 hr)) (r_var (pv 10)) (r_var (pv 5))) (r_and1 (q_cmpT (c_nin (u65 hr)) (r_var (pv 11)) (r_var (pv 5))))).pt)) (fun _ _ _ _ _ => r_int))) r_int) rfl (by first | exact .inl rfl | exact .inr rfl))
    (r_cons (r_ifS (r_not (r_val (r_call (G__law_bool.mono (by omega)) hr (by rfl) (aCons_len (aCons_len aNil_len)) (r_acons (r_call (G_shows_watch.mono (by omega)) hr (by rfl) (aCons_len (aCons_len aNil_len)) (r_acons (r_var (pv 1)) (r_acons (r_var (pv 5)) r_anil))) (r_acons (r_eand (r_var (pv 6)) (r_eone (r_var (pv 7)))) r_anil))))) (r_one (r_ret r_bl)) r_nil)
    (r_cons (r_set (i := 8) sc__law_people.nd rfl (by first | exact Or.inl rfl | exact Or.inr rfl) (q_div (q_sub (q_add (q_ix (r_var (pv 1)) r_int) (q_len T.z_len (r_var (pv 5)))) (r_call (G__law_odd.mono (by omega)) hr (by rfl) (aCons_len (aCons_len aNil_len)) (r_acons (r_var (pv 1)) (r_acons (r_var (pv 5)) r_anil)))) r_int) rfl (by first | exact .inl rfl | exact .inr rfl))
    (r_one (r_for PassesOwn.never rfl (r_iter (r_lst (r_acons (q_sub (r_var (pv 8)) r_int) (r_acons (r_var (pv 8)) (r_acons (q_add (r_var (pv 8)) r_int) r_anil))))) (pg_name (i := 9) sc__law_people.nd rfl (by first | exact Or.inl rfl | exact Or.inr rfl)) (tgOk_name (i := 9) (vs := [9]) (by decide)) (r_one (r_ifS (r_not (r_val (r_call (G__law_bool.mono (by omega)) hr (by rfl) (aCons_len (aCons_len aNil_len)) (r_acons (r_call (G_shows_bar.mono (by omega)) hr (by rfl) (aCons_len (aCons_len (aCons_len aNil_len))) (r_acons (r_var (pv 1)) (r_acons (r_var (pv 9)) (r_acons (r_var (pv 5)) r_anil)))) (r_acons (r_eand (r_var (pv 6)) (r_eone (q_cmp c_le (r_var (pv 8)) (r_var (pv 9))))) r_anil))))) (r_one (r_ret r_bl)) r_nil))))))))))))
    (r_one (r_ret r_bl))))
abbrev s__law_shares : Stmt := topS 40
theorem sc__law_shares : FnScope ["deal", "one", "pairs", "web", "p", "paper", "prices", "total", "rows", "row", "w", "due", "a", "b", "share", "i"] ["deal"] (defScope s__law_shares) := ⟨rfl, rfl, rfl, by decide +kernel, rfl, by decide +kernel, by decide +kernel⟩
theorem ok__law_shares {a : Addr} {fd : FuncData} (T : Tops K mg) (Z : At K mg "_law_shares" ["deal"] s__law_shares a fd) (G__law_bool : Fn P w K mg base 1 "_law_bool" 2 m__law_bool) (G__law_sided : Fn P w K mg base 2 "_law_sided" 3 m__law_sided) (G__law_take : Fn P w K mg base 1 "_law_take" 2 m__law_take) (G_shows_shares : Fn P w K mg base 1 "shows_shares" 4 m_shows_shares) : Fn P w K mg base 3 "_law_shares" 1 m__law_shares := by
  refine fn_at (lev := 2) (n := 1) (k := 15) (body := b__law_shares) Z sc__law_shares rfl rfl ?_
  intro cdv A outer s H E hr
  exact (r_cons (r_asgT (is := [1, 2]) rfl (r_call (G__law_sided.mono (by omega)) hr (by rfl) (aCons_len (aCons_len (aCons_len aNil_len))) (r_acons (r_var (pv 0)) (r_acons r_int (r_acons r_int r_anil)))) (pgs_cons (pg_name (i := 1) sc__law_shares.nd rfl (by first | exact Or.inl rfl | exact Or.inr rfl)) (pgs_cons (pg_name (i := 2) sc__law_shares.nd rfl (by first | exact Or.inl rfl | exact Or.inr rfl)) pgs_nil)))
    (r_cons (r_set (i := 3) sc__law_shares.nd rfl (by first | exact Or.inl rfl | exact Or.inr rfl) (r_tup (r_acons (q_add (r_var (pv 1)) r_int) (r_acons (r_var (pv 2)) r_anil))) rfl (by first | exact .inl rfl | exact .inr rfl))
    (r_cons (r_set (i := 5) sc__law_shares.nd rfl (by first | exact Or.inl rfl | exact Or.inr rfl) (q_tuple T.z_tuple (q_add (r_lc (own := [("p", 4)]) rfl sc__law_shares.nd (r_range1 (by rfl) T.z_range (r_var (pv 1))) (blkOk_by (by kernel_rfl)) (tgOk_name (i := 4) (vs := [4]) (by decide)) (fun _ _ _ _ _ => (pg_name (i := 4) sc__law_shares.nd rfl (by first | exact Or.inl rfl | exact Or.inr rfl))) (fun _ _ _ _ _ => r_ifs0) (fun _ _ _ _ _ => (r_call (G__law_take.mono (by omega)) hr (by rfl) (aCons_len (aCons_len aNil_len)) (r_acons (r_var (pv 0)) (r_acons r_int r_anil))))) (r_lst (r_acons r_int r_anil)))) rfl (by first | exact .inl rfl | exact .inr rfl))
    (r_cons (r_set (i := 6) sc__law_shares.nd rfl (by first | exact Or.inl rfl | exact Or.inr rfl) (q_tuple T.z_tuple (r_lc (own := [("a", 12), ("b", 13)]) rfl sc__law_shares.nd (r_iter (r_var (pv 2))) (blkOk_by (by kernel_rfl)) (tgOk_tup (is := [12, 13]) (vs := [12, 13]) rfl (by decide)) (fun _ _ _ _ _ => (g_tup (is := [12, 13]) rfl (pgs_cons (pg_name (i := 12) sc__law_shares.nd rfl (by first | exact Or.inl rfl | exact Or.inr rfl)) (pgs_cons (pg_name (i := 13) sc__law_shares.nd rfl (by first | exact Or.inl rfl | exact Or.inr rfl)) pgs_nil)))) (fun _ _ _ _ _ => r_ifs0) (fun _ _ _ _ _ => (q_add (q_ix (r_var (pv 5)) (r_var (pv 12))) (q_ix (r_var (pv 5)) (r_var (pv 13))))))) rfl (by first | exact .inl rfl | exact .inr rfl))
    (r_cons (r_set (i := 7) sc__law_shares.nd rfl (by first | exact Or.inl rfl | exact Or.inr rfl) (q_sum rfl T.z_sum (r_var (pv 5))) rfl (by first | exact .inl rfl | exact .inr rfl))
    (r_cons (r_set (i := 8) sc__law_shares.nd rfl (by first | exact Or.inl rfl | exact Or.inr rfl) (r_lst (r_acons (r_var (pv 5)) (r_acons (r_sl (r_var (pv 5)) (r_osome r_int) r_onone) (r_acons (q_add (r_var (pv 5)) (r_tup (r_acons r_int r_anil))) (r_acons (q_add (r_sl (r_var (pv 5)) r_onone (r_osome (r_var (pv 1)))) (r_tup (r_acons (r_neg r_int) r_anil))) (r_acons (q_add (r_sl (r_var (pv 5)) r_onone (r_osome (r_var (pv 1)))) (r_tup (r_acons r_int r_anil))) (r_acons (q_tuple T.z_tuple (q_mul (r_lst (r_acons r_int r_anil)) (q_add (r_var (pv 1)) r_int))) r_anil))))))) rfl (by first | exact .inl rfl | exact .inr rfl))
    (r_cons (r_for PassesOwn.never rfl (r_range1 (by rfl) T.z_range (r_var (pv 1))) (pg_name (i := 4) sc__law_shares.nd rfl (by first | exact Or.inl rfl | exact Or.inr rfl)) (tgOk_name (i := 4) (vs := [4]) (by decide)) (r_one (r_set (i := 8) sc__law_shares.nd rfl (by first | exact Or.inl rfl | exact Or.inr rfl) (q_add (r_var (pv 8)) (r_lst (r_acons (q_add (q_add (r_sl (r_var (pv 5)) r_onone (r_osome (r_var (pv 4)))) (r_tup (r_acons (q_sub (q_ix (r_var (pv 5)) (r_var (pv 4))) r_int) r_anil))) (r_sl (r_var (pv 5)) (r_osome (q_add (r_var (pv 4)) r_int)) r_onone)) (r_acons (q_add (q_add (q_add (r_sl (r_var (pv 5)) r_onone (r_osome (r_var (pv 4)))) (r_tup (r_acons (q_add (q_ix (r_var (pv 5)) (r_var (pv 4))) r_int) r_anil))) (r_sl (r_var (pv 5)) (r_osome (q_add (r_var (pv 4)) r_int)) (r_osome (r_var (pv 1))))) (r_tup (r_acons (r_neg r_int) r_anil))) r_anil)))) rfl (by first | exact .inl rfl | exact .inr rfl))))
    (r_cons (r_for PassesOwn.never rfl (r_iter (r_var (pv 8))) (pg_name (i := 9) sc__law_shares.nd rfl (by first | exact Or.inl rfl | exact Or.inr rfl)) (tgOk_name (i := 9) (vs := [9]) (by decide)) (r_one (r_for PassesOwn.never rfl (r_iter (r_lst (r_acons (q_sub (r_var (pv 7)) r_int) (r_acons (r_var (pv 7)) (r_acons (q_add (r_var (pv 7)) r_int) r_anil))))) (pg_name (i := 10) sc__law_shares.nd rfl (by first | exact Or.inl rfl | exact Or.inr rfl)) (tgOk_name (i := 10) (vs := [10]) (by decide)) (r_cons (r_set (i := 11) sc__law_shares.nd rfl (by first | exact Or.inl rfl | exact Or.inr rfl) (r_eand (q_cmp (c_eq (u64 hr)) (q_len T.z_len (r_var (pv 9))) (q_add (r_var (pv 1)) r_int)) (r_eand (q_cmp (c_eq (u64 hr)) (q_len T.z_len (r_lc (own := [("share", 14)]) rfl sc__law_shares.nd (r_iter (r_var (pv 9))) (blkOk_by (by kernel_rfl)) (tgOk_name (i := 14) (vs := [14]) (by decide)) (fun _ _ _ _ _ => (pg_name (i := 14) sc__law_shares.nd rfl (by first | exact Or.inl rfl | exact Or.inr rfl))) (fun _ _ _ _ _ => (r_ifs1 (q_cmpT c_lt (r_var (pv 14)) r_int))) (fun _ _ _ _ _ => r_int))) r_int) (r_eone (q_cmp c_le (q_sum rfl T.z_sum (r_var (pv 9))) (r_var (pv 10)))))) rfl (by first | exact .inl rfl | exact .inr rfl))
    (r_cons (r_set (i := 11) sc__law_shares.nd rfl (by first | exact Or.inl rfl | exact Or.inr rfl) (r_eand (r_var (pv 11)) (r_eone (q_cmp (c_eq (u64 hr)) (q_len T.z_len (r_lc (own := [("i", 15)]) rfl sc__law_shares.nd (r_range1 (by rfl) T.z_range (q_len T.z_len (r_var (pv 2)))) (blkOk_by (by kernel_rfl)) (tgOk_name (i := 15) (vs := [15]) (by decide)) (fun _ _ _ _ _ => (pg_name (i := 15) sc__law_shares.nd rfl (by first | exact Or.inl rfl | exact Or.inr rfl))) (fun _ _ _ _ _ => (r_ifs1 (q_cmpT c_lt (q_add (q_ix (r_var (pv 9)) (q_ix (q_ix (r_var (pv 2)) (r_var (pv 15))) r_int)) (q_ix (r_var (pv 9)) (q_ix (q_ix (r_var (pv 2)) (r_var (pv 15))) r_int))) (q_ix (r_var (pv 6)) (r_var (pv 15)))))) (fun _ _ _ _ _ => r_int))) r_int))) rfl (by first | exact .inl rfl | exact .inr rfl))
    (r_one (r_ifS (r_not (r_val (r_call (G__law_bool.mono (by omega)) hr (by rfl) (aCons_len (aCons_len aNil_len)) (r_acons (r_call (G_shows_shares.mono (by omega)) hr (by rfl) (aCons_len (aCons_len (aCons_len (aCons_len aNil_len)))) (r_acons (r_var (pv 3)) (r_acons (r_var (pv 6)) (r_acons (r_var (pv 10)) (r_acons (r_var (pv 9)) r_anil))))) (r_acons (r_var (pv 11)) r_anil))))) (r_one (r_ret r_bl)) r_nil)))))))
    (r_one (r_ret (r_eand (r_call (G__law_bool.mono (by omega)) hr (by rfl) (aCons_len (aCons_len aNil_len)) (r_acons (r_call (G_shows_shares.mono (by omega)) hr (by rfl) (aCons_len (aCons_len (aCons_len (aCons_len aNil_len)))) (r_acons (r_var (pv 3)) (r_acons (r_var (pv 6)) (r_acons (r_var (pv 7)) (r_acons (r_var (pv 5)) r_anil))))) (r_acons r_bl r_anil))) (r_eone (r_call (G__law_bool.mono (by omega)) hr (by rfl) (aCons_len (aCons_len aNil_len)) (r_acons (r_call (G_shows_shares.mono (by omega)) hr (by rfl) (aCons_len (aCons_len (aCons_len (aCons_len aNil_len)))) (r_acons (r_var (pv 3)) (r_acons (r_var (pv 6)) (r_acons (q_sub (r_var (pv 7)) r_int) (r_acons (r_var (pv 5)) r_anil))))) (r_acons r_bl r_anil)))))))))))))))
abbrev s_law : Stmt := topS 41
theorem sc_law : FnScope ["script", "deal", "web"] ["script"] (defScope s_law) := ⟨rfl, rfl, rfl, by decide +kernel, rfl, by decide +kernel, by decide +kernel⟩
theorem okF_law {a : Addr} {fd : FuncData} (T : Tops K mg) (Z : At K mg "law" ["script"] s_law a fd) (G__law_busy : Fn P w K mg base 4 "_law_busy" 1 m__law_busy) (G__law_crowds : Fn P w K mg base 3 "_law_crowds" 1 m__law_crowds) (G__law_deal : Fn P w K mg base 1 "_law_deal" 1 m__law_deal) (G__law_people : Fn P w K mg base 4 "_law_people" 2 m__law_people) (G__law_rings : Fn P w K mg base 3 "_law_rings" 1 m__law_rings) (G__law_shares : Fn P w K mg base 3 "_law_shares" 1 m__law_shares) (G__law_sides_judged : Fn P w K mg base 2 "_law_sides_judged" 2 m__law_sides_judged) (G__law_web : Fn P w K mg base 4 "_law_web" 2 m__law_web) : FnOk P w K mg base CX0 5 a fd ["script"] (spD K 1 m_law) := by
  refine fn_ok (lev := 4) (n := 1) (k := 2) (body := b_law) Z.F sc_law rfl rfl ?_
  intro cdv A outer s H E hr
  exact (r_cons (r_set (i := 1) sc_law.nd rfl (by first | exact Or.inl rfl | exact Or.inr rfl) (r_call (G__law_deal.mono (by omega)) hr (by rfl) (aCons_len aNil_len) (r_acons (r_var (pv 0)) r_anil)) rfl (by first | exact .inl rfl | exact .inr rfl))
    (r_cons (r_set (i := 2) sc_law.nd rfl (by first | exact Or.inl rfl | exact Or.inr rfl) (r_call (G__law_web.mono (by omega)) hr (by rfl) (aCons_len (aCons_len aNil_len)) (r_acons (r_var (pv 1)) (r_acons r_int r_anil))) rfl (by first | exact .inl rfl | exact .inr rfl))
    (r_cons (r_set (i := 2) sc_law.nd rfl (by first | exact Or.inl rfl | exact Or.inr rfl) (r_tup (r_acons (q_add (q_ix (r_var (pv 2)) r_int) r_int) (r_acons (q_ix (r_var (pv 2)) r_int) r_anil))) rfl (by first | exact .inl rfl | exact .inr rfl))
    (r_cons (r_ifS (r_or (r_not (r_val (r_call (G__law_busy.mono (by omega)) hr (by rfl) (aCons_len aNil_len) (r_acons (r_var (pv 2)) r_anil)))) (r_or (r_not (r_val (r_call (G__law_sides_judged.mono (by omega)) hr (by rfl) (aCons_len (aCons_len aNil_len)) (r_acons (r_var (pv 1)) (r_acons (r_var (pv 2)) r_anil))))) (r_or1 (r_not (r_val (r_call (G__law_people.mono (by omega)) hr (by rfl) (aCons_len (aCons_len aNil_len)) (r_acons (r_var (pv 1)) (r_acons (r_var (pv 2)) r_anil)))))))).pt (r_one (r_ret r_bl)) r_nil)
    (r_one (r_ret (r_eand (r_call (G__law_crowds.mono (by omega)) hr (by rfl) (aCons_len aNil_len) (r_acons (r_var (pv 1)) r_anil)) (r_eand (r_call (G__law_rings.mono (by omega)) hr (by rfl) (aCons_len aNil_len) (r_acons (r_var (pv 1)) r_anil)) (r_eone (r_call (G__law_shares.mono (by omega)) hr (by rfl) (aCons_len aNil_len) (r_acons (r_var (pv 1)) r_anil)))))))))))
theorem ok_all (T : Tops K mg)
  {a_meetings_of : Addr} {d_meetings_of : FuncData} (Z_meetings_of : At K mg "meetings_of" ["web", "person"] s_meetings_of a_meetings_of d_meetings_of)
  {a_load : Addr} {d_load : FuncData} (Z_load : At K mg "load" ["web", "person"] s_load a_load d_load)
  {a_two_in : Addr} {d_two_in : FuncData} (Z_two_in : At K mg "two_in" ["web", "people"] s_two_in a_two_in d_two_in)
  {a_other_of : Addr} {d_other_of : FuncData} (Z_other_of : At K mg "other_of" ["web", "i", "person"] s_other_of a_other_of d_other_of)
  {a_shows_busy : Addr} {d_shows_busy : FuncData} (Z_shows_busy : At K mg "shows_busy" ["web", "k", "person"] s_shows_busy a_shows_busy d_shows_busy)
  {a_shows_crowd : Addr} {d_shows_crowd : FuncData} (Z_shows_crowd : At K mg "shows_crowd" ["web", "k", "people"] s_shows_crowd a_shows_crowd d_shows_crowd)
  {a_odd_parts : Addr} {d_odd_parts : FuncData} (Z_odd_parts : At K mg "odd_parts" ["web", "people"] s_odd_parts a_odd_parts d_odd_parts)
  {a_are_people : Addr} {d_are_people : FuncData} (Z_are_people : At K mg "are_people" ["web", "people"] s_are_people a_are_people d_are_people)
  {a_shows_bar : Addr} {d_shows_bar : FuncData} (Z_shows_bar : At K mg "shows_bar" ["web", "m", "people"] s_shows_bar a_shows_bar d_shows_bar)
  {a_shows_sides : Addr} {d_shows_sides : FuncData} (Z_shows_sides : At K mg "shows_sides" ["web", "paper"] s_shows_sides a_shows_sides d_shows_sides)
  {a_shows_ring : Addr} {d_shows_ring : FuncData} (Z_shows_ring : At K mg "shows_ring" ["web", "people"] s_shows_ring a_shows_ring d_shows_ring)
  {a_shows_shares : Addr} {d_shows_shares : FuncData} (Z_shows_shares : At K mg "shows_shares" ["web", "prices", "w", "paper"] s_shows_shares a_shows_shares d_shows_shares)
  {a_shows_watch : Addr} {d_shows_watch : FuncData} (Z_shows_watch : At K mg "shows_watch" ["web", "people"] s_shows_watch a_shows_watch d_shows_watch)
  {a__law_deal : Addr} {d__law_deal : FuncData} (Z__law_deal : At K mg "_law_deal" ["script"] s__law_deal a__law_deal d__law_deal)
  {a__law_take : Addr} {d__law_take : FuncData} (Z__law_take : At K mg "_law_take" ["deal", "many"] s__law_take a__law_take d__law_take)
  {a__law_bool : Addr} {d__law_bool : FuncData} (Z__law_bool : At K mg "_law_bool" ["answer", "due"] s__law_bool a__law_bool d__law_bool)
  {a__law_plain : Addr} {d__law_plain : FuncData} (Z__law_plain : At K mg "_law_plain" ["deal", "most", "limit"] s__law_plain a__law_plain d__law_plain)
  {a__law_sided : Addr} {d__law_sided : FuncData} (Z__law_sided : At K mg "_law_sided" ["deal", "most", "limit"] s__law_sided a__law_sided d__law_sided)
  {a__law_any : Addr} {d__law_any : FuncData} (Z__law_any : At K mg "_law_any" ["deal", "limit"] s__law_any a__law_any d__law_any)
  {a__law_few : Addr} {d__law_few : FuncData} (Z__law_few : At K mg "_law_few" ["deal"] s__law_few a__law_few d__law_few)
  {a__law_web : Addr} {d__law_web : FuncData} (Z__law_web : At K mg "_law_web" ["deal", "limit"] s__law_web a__law_web d__law_web)
  {a__law_order : Addr} {d__law_order : FuncData} (Z__law_order : At K mg "_law_order" ["deal", "many"] s__law_order a__law_order d__law_order)
  {a__law_sides : Addr} {d__law_sides : FuncData} (Z__law_sides : At K mg "_law_sides" ["web"] s__law_sides a__law_sides d__law_sides)
  {a__law_rows : Addr} {d__law_rows : FuncData} (Z__law_rows : At K mg "_law_rows" ["web"] s__law_rows a__law_rows d__law_rows)
  {a__law_sorted : Addr} {d__law_sorted : FuncData} (Z__law_sorted : At K mg "_law_sorted" ["web", "people"] s__law_sorted a__law_sorted d__law_sorted)
  {a__law_inside : Addr} {d__law_inside : FuncData} (Z__law_inside : At K mg "_law_inside" ["web", "people"] s__law_inside a__law_inside d__law_inside)
  {a__law_crowds : Addr} {d__law_crowds : FuncData} (Z__law_crowds : At K mg "_law_crowds" ["deal"] s__law_crowds a__law_crowds d__law_crowds)
  {a__law_busy : Addr} {d__law_busy : FuncData} (Z__law_busy : At K mg "_law_busy" ["web"] s__law_busy a__law_busy d__law_busy)
  {a__law_sides_judged : Addr} {d__law_sides_judged : FuncData} (Z__law_sides_judged : At K mg "_law_sides_judged" ["deal", "web"] s__law_sides_judged a__law_sides_judged d__law_sides_judged)
  {a__law_ring : Addr} {d__law_ring : FuncData} (Z__law_ring : At K mg "_law_ring" ["web", "people"] s__law_ring a__law_ring d__law_ring)
  {a__law_rings : Addr} {d__law_rings : FuncData} (Z__law_rings : At K mg "_law_rings" ["deal"] s__law_rings a__law_rings d__law_rings)
  {a__law_odd : Addr} {d__law_odd : FuncData} (Z__law_odd : At K mg "_law_odd" ["web", "people"] s__law_odd a__law_odd d__law_odd)
  {a__law_people : Addr} {d__law_people : FuncData} (Z__law_people : At K mg "_law_people" ["deal", "web"] s__law_people a__law_people d__law_people)
  {a__law_shares : Addr} {d__law_shares : FuncData} (Z__law_shares : At K mg "_law_shares" ["deal"] s__law_shares a__law_shares d__law_shares)
  {a_law : Addr} {d_law : FuncData} (Z_law : At K mg "law" ["script"] s_law a_law d_law) : FnOk P w K mg base CX0 5 a_law d_law ["script"] (spD K 1 m_law) := by
  have G_meetings_of : Fn P w K mg base 1 "meetings_of" 2 m_meetings_of := ok_meetings_of T Z_meetings_of
  have G_load : Fn P w K mg base 2 "load" 2 m_load := ok_load T Z_load G_meetings_of
  have G_two_in : Fn P w K mg base 1 "two_in" 2 m_two_in := ok_two_in T Z_two_in
  have G_other_of : Fn P w K mg base 1 "other_of" 3 m_other_of := ok_other_of T Z_other_of
  have G_shows_busy : Fn P w K mg base 3 "shows_busy" 3 m_shows_busy := ok_shows_busy T Z_shows_busy G_load
  have G_shows_crowd : Fn P w K mg base 2 "shows_crowd" 3 m_shows_crowd := ok_shows_crowd T Z_shows_crowd G_two_in
  have G_odd_parts : Fn P w K mg base 2 "odd_parts" 2 m_odd_parts := ok_odd_parts T Z_odd_parts G_meetings_of G_other_of
  have G_are_people : Fn P w K mg base 1 "are_people" 2 m_are_people := ok_are_people T Z_are_people
  have G_shows_bar : Fn P w K mg base 3 "shows_bar" 3 m_shows_bar := ok_shows_bar T Z_shows_bar G_are_people G_odd_parts
  have G_shows_sides : Fn P w K mg base 1 "shows_sides" 2 m_shows_sides := ok_shows_sides T Z_shows_sides
  have G_shows_ring : Fn P w K mg base 1 "shows_ring" 2 m_shows_ring := ok_shows_ring T Z_shows_ring
  have G_shows_shares : Fn P w K mg base 1 "shows_shares" 4 m_shows_shares := ok_shows_shares T Z_shows_shares
  have G_shows_watch : Fn P w K mg base 2 "shows_watch" 2 m_shows_watch := ok_shows_watch T Z_shows_watch G_are_people
  have G__law_deal : Fn P w K mg base 1 "_law_deal" 1 m__law_deal := ok__law_deal T Z__law_deal
  have G__law_take : Fn P w K mg base 1 "_law_take" 2 m__law_take := ok__law_take T Z__law_take
  have G__law_bool : Fn P w K mg base 1 "_law_bool" 2 m__law_bool := ok__law_bool T Z__law_bool
  have G__law_plain : Fn P w K mg base 2 "_law_plain" 3 m__law_plain := ok__law_plain T Z__law_plain G__law_take
  have G__law_sided : Fn P w K mg base 2 "_law_sided" 3 m__law_sided := ok__law_sided T Z__law_sided G__law_take
  have G__law_any : Fn P w K mg base 3 "_law_any" 2 m__law_any := ok__law_any T Z__law_any G__law_plain G__law_sided G__law_take
  have G__law_few : Fn P w K mg base 2 "_law_few" 1 m__law_few := ok__law_few T Z__law_few G__law_take
  have G__law_web : Fn P w K mg base 4 "_law_web" 2 m__law_web := ok__law_web T Z__law_web G__law_any G__law_few G__law_take
  have G__law_order : Fn P w K mg base 2 "_law_order" 2 m__law_order := ok__law_order T Z__law_order G__law_take
  have G__law_sides : Fn P w K mg base 1 "_law_sides" 1 m__law_sides := ok__law_sides T Z__law_sides
  have G__law_rows : Fn P w K mg base 1 "_law_rows" 1 m__law_rows := ok__law_rows T Z__law_rows
  have G__law_sorted : Fn P w K mg base 1 "_law_sorted" 2 m__law_sorted := ok__law_sorted T Z__law_sorted
  have G__law_inside : Fn P w K mg base 1 "_law_inside" 2 m__law_inside := ok__law_inside T Z__law_inside
  have G__law_crowds : Fn P w K mg base 3 "_law_crowds" 1 m__law_crowds := ok__law_crowds T Z__law_crowds G__law_bool G__law_inside G__law_sorted G__law_take G_shows_crowd
  have G__law_busy : Fn P w K mg base 4 "_law_busy" 1 m__law_busy := ok__law_busy T Z__law_busy G__law_bool G_shows_busy
  have G__law_sides_judged : Fn P w K mg base 2 "_law_sides_judged" 2 m__law_sides_judged := ok__law_sides_judged T Z__law_sides_judged G__law_bool G__law_sides G__law_take G_shows_sides
  have G__law_ring : Fn P w K mg base 1 "_law_ring" 2 m__law_ring := ok__law_ring T Z__law_ring
  have G__law_rings : Fn P w K mg base 3 "_law_rings" 1 m__law_rings := ok__law_rings T Z__law_rings G__law_bool G__law_order G__law_ring G__law_take G_shows_ring
  have G__law_odd : Fn P w K mg base 1 "_law_odd" 2 m__law_odd := ok__law_odd T Z__law_odd
  have G__law_people : Fn P w K mg base 4 "_law_people" 2 m__law_people := ok__law_people T Z__law_people G__law_bool G__law_odd G__law_rows G__law_sorted G__law_take G_shows_bar G_shows_watch
  have G__law_shares : Fn P w K mg base 3 "_law_shares" 1 m__law_shares := ok__law_shares T Z__law_shares G__law_bool G__law_sided G__law_take G_shows_shares
  exact okF_law T Z_law G__law_busy G__law_crowds G__law_deal G__law_people G__law_rings G__law_shares G__law_sides_judged G__law_web
end
theorem all_mk {l : PySem.W.OpenLaw} {w : World} {K : PySem.W.Frag} {h : Heap} {mg : Str → Option Value} {fa : Addr} (X : K.In h) (G : h.Ns mainGlobals mg) (hfa : mg "law" = some (.ref fa))
    {f0 : Addr} {od0 an0 : Option Addr} {sl0 : Array (Option Value)} {oc0 kV0 dc0 pm0 cd0 ct0 : Value}
    (a0 : PySem.W.nsIn K mainGlobals "meetings_of" = some (some (.ref f0))) (l0 : K.lookup f0 = some ⟨oc0, od0, .func (PySem.W.fnOf "meetings_of" "meetings_of" (defArgs s_meetings_of) (defBody s_meetings_of) (defScope s_meetings_of) .none kV0 dc0 pm0 an0 cd0 ct0), sl0⟩) (c0 : PySem.W.codeIn K cd0 "meetings_of" = true) (k0 : PySem.W.keepIn K (.ref f0) = true)
    {f1 : Addr} {od1 an1 : Option Addr} {sl1 : Array (Option Value)} {oc1 kV1 dc1 pm1 cd1 ct1 : Value}
    (a1 : PySem.W.nsIn K mainGlobals "load" = some (some (.ref f1))) (l1 : K.lookup f1 = some ⟨oc1, od1, .func (PySem.W.fnOf "load" "load" (defArgs s_load) (defBody s_load) (defScope s_load) .none kV1 dc1 pm1 an1 cd1 ct1), sl1⟩) (c1 : PySem.W.codeIn K cd1 "load" = true) (k1 : PySem.W.keepIn K (.ref f1) = true)
    {f2 : Addr} {od2 an2 : Option Addr} {sl2 : Array (Option Value)} {oc2 kV2 dc2 pm2 cd2 ct2 : Value}
    (a2 : PySem.W.nsIn K mainGlobals "two_in" = some (some (.ref f2))) (l2 : K.lookup f2 = some ⟨oc2, od2, .func (PySem.W.fnOf "two_in" "two_in" (defArgs s_two_in) (defBody s_two_in) (defScope s_two_in) .none kV2 dc2 pm2 an2 cd2 ct2), sl2⟩) (c2 : PySem.W.codeIn K cd2 "two_in" = true) (k2 : PySem.W.keepIn K (.ref f2) = true)
    {f3 : Addr} {od3 an3 : Option Addr} {sl3 : Array (Option Value)} {oc3 kV3 dc3 pm3 cd3 ct3 : Value}
    (a3 : PySem.W.nsIn K mainGlobals "other_of" = some (some (.ref f3))) (l3 : K.lookup f3 = some ⟨oc3, od3, .func (PySem.W.fnOf "other_of" "other_of" (defArgs s_other_of) (defBody s_other_of) (defScope s_other_of) .none kV3 dc3 pm3 an3 cd3 ct3), sl3⟩) (c3 : PySem.W.codeIn K cd3 "other_of" = true) (k3 : PySem.W.keepIn K (.ref f3) = true)
    {f4 : Addr} {od4 an4 : Option Addr} {sl4 : Array (Option Value)} {oc4 kV4 dc4 pm4 cd4 ct4 : Value}
    (a4 : PySem.W.nsIn K mainGlobals "shows_busy" = some (some (.ref f4))) (l4 : K.lookup f4 = some ⟨oc4, od4, .func (PySem.W.fnOf "shows_busy" "shows_busy" (defArgs s_shows_busy) (defBody s_shows_busy) (defScope s_shows_busy) .none kV4 dc4 pm4 an4 cd4 ct4), sl4⟩) (c4 : PySem.W.codeIn K cd4 "shows_busy" = true) (k4 : PySem.W.keepIn K (.ref f4) = true)
    {f5 : Addr} {od5 an5 : Option Addr} {sl5 : Array (Option Value)} {oc5 kV5 dc5 pm5 cd5 ct5 : Value}
    (a5 : PySem.W.nsIn K mainGlobals "shows_crowd" = some (some (.ref f5))) (l5 : K.lookup f5 = some ⟨oc5, od5, .func (PySem.W.fnOf "shows_crowd" "shows_crowd" (defArgs s_shows_crowd) (defBody s_shows_crowd) (defScope s_shows_crowd) .none kV5 dc5 pm5 an5 cd5 ct5), sl5⟩) (c5 : PySem.W.codeIn K cd5 "shows_crowd" = true) (k5 : PySem.W.keepIn K (.ref f5) = true)
    {f6 : Addr} {od6 an6 : Option Addr} {sl6 : Array (Option Value)} {oc6 kV6 dc6 pm6 cd6 ct6 : Value}
    (a6 : PySem.W.nsIn K mainGlobals "odd_parts" = some (some (.ref f6))) (l6 : K.lookup f6 = some ⟨oc6, od6, .func (PySem.W.fnOf "odd_parts" "odd_parts" (defArgs s_odd_parts) (defBody s_odd_parts) (defScope s_odd_parts) .none kV6 dc6 pm6 an6 cd6 ct6), sl6⟩) (c6 : PySem.W.codeIn K cd6 "odd_parts" = true) (k6 : PySem.W.keepIn K (.ref f6) = true)
    {f7 : Addr} {od7 an7 : Option Addr} {sl7 : Array (Option Value)} {oc7 kV7 dc7 pm7 cd7 ct7 : Value}
    (a7 : PySem.W.nsIn K mainGlobals "are_people" = some (some (.ref f7))) (l7 : K.lookup f7 = some ⟨oc7, od7, .func (PySem.W.fnOf "are_people" "are_people" (defArgs s_are_people) (defBody s_are_people) (defScope s_are_people) .none kV7 dc7 pm7 an7 cd7 ct7), sl7⟩) (c7 : PySem.W.codeIn K cd7 "are_people" = true) (k7 : PySem.W.keepIn K (.ref f7) = true)
    {f8 : Addr} {od8 an8 : Option Addr} {sl8 : Array (Option Value)} {oc8 kV8 dc8 pm8 cd8 ct8 : Value}
    (a8 : PySem.W.nsIn K mainGlobals "shows_bar" = some (some (.ref f8))) (l8 : K.lookup f8 = some ⟨oc8, od8, .func (PySem.W.fnOf "shows_bar" "shows_bar" (defArgs s_shows_bar) (defBody s_shows_bar) (defScope s_shows_bar) .none kV8 dc8 pm8 an8 cd8 ct8), sl8⟩) (c8 : PySem.W.codeIn K cd8 "shows_bar" = true) (k8 : PySem.W.keepIn K (.ref f8) = true)
    {f9 : Addr} {od9 an9 : Option Addr} {sl9 : Array (Option Value)} {oc9 kV9 dc9 pm9 cd9 ct9 : Value}
    (a9 : PySem.W.nsIn K mainGlobals "shows_sides" = some (some (.ref f9))) (l9 : K.lookup f9 = some ⟨oc9, od9, .func (PySem.W.fnOf "shows_sides" "shows_sides" (defArgs s_shows_sides) (defBody s_shows_sides) (defScope s_shows_sides) .none kV9 dc9 pm9 an9 cd9 ct9), sl9⟩) (c9 : PySem.W.codeIn K cd9 "shows_sides" = true) (k9 : PySem.W.keepIn K (.ref f9) = true)
    {f10 : Addr} {od10 an10 : Option Addr} {sl10 : Array (Option Value)} {oc10 kV10 dc10 pm10 cd10 ct10 : Value}
    (a10 : PySem.W.nsIn K mainGlobals "shows_ring" = some (some (.ref f10))) (l10 : K.lookup f10 = some ⟨oc10, od10, .func (PySem.W.fnOf "shows_ring" "shows_ring" (defArgs s_shows_ring) (defBody s_shows_ring) (defScope s_shows_ring) .none kV10 dc10 pm10 an10 cd10 ct10), sl10⟩) (c10 : PySem.W.codeIn K cd10 "shows_ring" = true) (k10 : PySem.W.keepIn K (.ref f10) = true)
    {f11 : Addr} {od11 an11 : Option Addr} {sl11 : Array (Option Value)} {oc11 kV11 dc11 pm11 cd11 ct11 : Value}
    (a11 : PySem.W.nsIn K mainGlobals "shows_shares" = some (some (.ref f11))) (l11 : K.lookup f11 = some ⟨oc11, od11, .func (PySem.W.fnOf "shows_shares" "shows_shares" (defArgs s_shows_shares) (defBody s_shows_shares) (defScope s_shows_shares) .none kV11 dc11 pm11 an11 cd11 ct11), sl11⟩) (c11 : PySem.W.codeIn K cd11 "shows_shares" = true) (k11 : PySem.W.keepIn K (.ref f11) = true)
    {f12 : Addr} {od12 an12 : Option Addr} {sl12 : Array (Option Value)} {oc12 kV12 dc12 pm12 cd12 ct12 : Value}
    (a12 : PySem.W.nsIn K mainGlobals "shows_watch" = some (some (.ref f12))) (l12 : K.lookup f12 = some ⟨oc12, od12, .func (PySem.W.fnOf "shows_watch" "shows_watch" (defArgs s_shows_watch) (defBody s_shows_watch) (defScope s_shows_watch) .none kV12 dc12 pm12 an12 cd12 ct12), sl12⟩) (c12 : PySem.W.codeIn K cd12 "shows_watch" = true) (k12 : PySem.W.keepIn K (.ref f12) = true)
    {f13 : Addr} {od13 an13 : Option Addr} {sl13 : Array (Option Value)} {oc13 kV13 dc13 pm13 cd13 ct13 : Value}
    (a13 : PySem.W.nsIn K mainGlobals "_law_deal" = some (some (.ref f13))) (l13 : K.lookup f13 = some ⟨oc13, od13, .func (PySem.W.fnOf "_law_deal" "_law_deal" (defArgs s__law_deal) (defBody s__law_deal) (defScope s__law_deal) .none kV13 dc13 pm13 an13 cd13 ct13), sl13⟩) (c13 : PySem.W.codeIn K cd13 "_law_deal" = true) (k13 : PySem.W.keepIn K (.ref f13) = true)
    {f14 : Addr} {od14 an14 : Option Addr} {sl14 : Array (Option Value)} {oc14 kV14 dc14 pm14 cd14 ct14 : Value}
    (a14 : PySem.W.nsIn K mainGlobals "_law_take" = some (some (.ref f14))) (l14 : K.lookup f14 = some ⟨oc14, od14, .func (PySem.W.fnOf "_law_take" "_law_take" (defArgs s__law_take) (defBody s__law_take) (defScope s__law_take) .none kV14 dc14 pm14 an14 cd14 ct14), sl14⟩) (c14 : PySem.W.codeIn K cd14 "_law_take" = true) (k14 : PySem.W.keepIn K (.ref f14) = true)
    {f15 : Addr} {od15 an15 : Option Addr} {sl15 : Array (Option Value)} {oc15 kV15 dc15 pm15 cd15 ct15 : Value}
    (a15 : PySem.W.nsIn K mainGlobals "_law_bool" = some (some (.ref f15))) (l15 : K.lookup f15 = some ⟨oc15, od15, .func (PySem.W.fnOf "_law_bool" "_law_bool" (defArgs s__law_bool) (defBody s__law_bool) (defScope s__law_bool) .none kV15 dc15 pm15 an15 cd15 ct15), sl15⟩) (c15 : PySem.W.codeIn K cd15 "_law_bool" = true) (k15 : PySem.W.keepIn K (.ref f15) = true)
    {f16 : Addr} {od16 an16 : Option Addr} {sl16 : Array (Option Value)} {oc16 kV16 dc16 pm16 cd16 ct16 : Value}
    (a16 : PySem.W.nsIn K mainGlobals "_law_plain" = some (some (.ref f16))) (l16 : K.lookup f16 = some ⟨oc16, od16, .func (PySem.W.fnOf "_law_plain" "_law_plain" (defArgs s__law_plain) (defBody s__law_plain) (defScope s__law_plain) .none kV16 dc16 pm16 an16 cd16 ct16), sl16⟩) (c16 : PySem.W.codeIn K cd16 "_law_plain" = true) (k16 : PySem.W.keepIn K (.ref f16) = true)
    {f17 : Addr} {od17 an17 : Option Addr} {sl17 : Array (Option Value)} {oc17 kV17 dc17 pm17 cd17 ct17 : Value}
    (a17 : PySem.W.nsIn K mainGlobals "_law_sided" = some (some (.ref f17))) (l17 : K.lookup f17 = some ⟨oc17, od17, .func (PySem.W.fnOf "_law_sided" "_law_sided" (defArgs s__law_sided) (defBody s__law_sided) (defScope s__law_sided) .none kV17 dc17 pm17 an17 cd17 ct17), sl17⟩) (c17 : PySem.W.codeIn K cd17 "_law_sided" = true) (k17 : PySem.W.keepIn K (.ref f17) = true)
    {f18 : Addr} {od18 an18 : Option Addr} {sl18 : Array (Option Value)} {oc18 kV18 dc18 pm18 cd18 ct18 : Value}
    (a18 : PySem.W.nsIn K mainGlobals "_law_any" = some (some (.ref f18))) (l18 : K.lookup f18 = some ⟨oc18, od18, .func (PySem.W.fnOf "_law_any" "_law_any" (defArgs s__law_any) (defBody s__law_any) (defScope s__law_any) .none kV18 dc18 pm18 an18 cd18 ct18), sl18⟩) (c18 : PySem.W.codeIn K cd18 "_law_any" = true) (k18 : PySem.W.keepIn K (.ref f18) = true)
    {f19 : Addr} {od19 an19 : Option Addr} {sl19 : Array (Option Value)} {oc19 kV19 dc19 pm19 cd19 ct19 : Value}
    (a19 : PySem.W.nsIn K mainGlobals "_law_few" = some (some (.ref f19))) (l19 : K.lookup f19 = some ⟨oc19, od19, .func (PySem.W.fnOf "_law_few" "_law_few" (defArgs s__law_few) (defBody s__law_few) (defScope s__law_few) .none kV19 dc19 pm19 an19 cd19 ct19), sl19⟩) (c19 : PySem.W.codeIn K cd19 "_law_few" = true) (k19 : PySem.W.keepIn K (.ref f19) = true)
    {f20 : Addr} {od20 an20 : Option Addr} {sl20 : Array (Option Value)} {oc20 kV20 dc20 pm20 cd20 ct20 : Value}
    (a20 : PySem.W.nsIn K mainGlobals "_law_web" = some (some (.ref f20))) (l20 : K.lookup f20 = some ⟨oc20, od20, .func (PySem.W.fnOf "_law_web" "_law_web" (defArgs s__law_web) (defBody s__law_web) (defScope s__law_web) .none kV20 dc20 pm20 an20 cd20 ct20), sl20⟩) (c20 : PySem.W.codeIn K cd20 "_law_web" = true) (k20 : PySem.W.keepIn K (.ref f20) = true)
    {f21 : Addr} {od21 an21 : Option Addr} {sl21 : Array (Option Value)} {oc21 kV21 dc21 pm21 cd21 ct21 : Value}
    (a21 : PySem.W.nsIn K mainGlobals "_law_order" = some (some (.ref f21))) (l21 : K.lookup f21 = some ⟨oc21, od21, .func (PySem.W.fnOf "_law_order" "_law_order" (defArgs s__law_order) (defBody s__law_order) (defScope s__law_order) .none kV21 dc21 pm21 an21 cd21 ct21), sl21⟩) (c21 : PySem.W.codeIn K cd21 "_law_order" = true) (k21 : PySem.W.keepIn K (.ref f21) = true)
    {f22 : Addr} {od22 an22 : Option Addr} {sl22 : Array (Option Value)} {oc22 kV22 dc22 pm22 cd22 ct22 : Value}
    (a22 : PySem.W.nsIn K mainGlobals "_law_sides" = some (some (.ref f22))) (l22 : K.lookup f22 = some ⟨oc22, od22, .func (PySem.W.fnOf "_law_sides" "_law_sides" (defArgs s__law_sides) (defBody s__law_sides) (defScope s__law_sides) .none kV22 dc22 pm22 an22 cd22 ct22), sl22⟩) (c22 : PySem.W.codeIn K cd22 "_law_sides" = true) (k22 : PySem.W.keepIn K (.ref f22) = true)
    {f23 : Addr} {od23 an23 : Option Addr} {sl23 : Array (Option Value)} {oc23 kV23 dc23 pm23 cd23 ct23 : Value}
    (a23 : PySem.W.nsIn K mainGlobals "_law_rows" = some (some (.ref f23))) (l23 : K.lookup f23 = some ⟨oc23, od23, .func (PySem.W.fnOf "_law_rows" "_law_rows" (defArgs s__law_rows) (defBody s__law_rows) (defScope s__law_rows) .none kV23 dc23 pm23 an23 cd23 ct23), sl23⟩) (c23 : PySem.W.codeIn K cd23 "_law_rows" = true) (k23 : PySem.W.keepIn K (.ref f23) = true)
    {f24 : Addr} {od24 an24 : Option Addr} {sl24 : Array (Option Value)} {oc24 kV24 dc24 pm24 cd24 ct24 : Value}
    (a24 : PySem.W.nsIn K mainGlobals "_law_sorted" = some (some (.ref f24))) (l24 : K.lookup f24 = some ⟨oc24, od24, .func (PySem.W.fnOf "_law_sorted" "_law_sorted" (defArgs s__law_sorted) (defBody s__law_sorted) (defScope s__law_sorted) .none kV24 dc24 pm24 an24 cd24 ct24), sl24⟩) (c24 : PySem.W.codeIn K cd24 "_law_sorted" = true) (k24 : PySem.W.keepIn K (.ref f24) = true)
    {f25 : Addr} {od25 an25 : Option Addr} {sl25 : Array (Option Value)} {oc25 kV25 dc25 pm25 cd25 ct25 : Value}
    (a25 : PySem.W.nsIn K mainGlobals "_law_inside" = some (some (.ref f25))) (l25 : K.lookup f25 = some ⟨oc25, od25, .func (PySem.W.fnOf "_law_inside" "_law_inside" (defArgs s__law_inside) (defBody s__law_inside) (defScope s__law_inside) .none kV25 dc25 pm25 an25 cd25 ct25), sl25⟩) (c25 : PySem.W.codeIn K cd25 "_law_inside" = true) (k25 : PySem.W.keepIn K (.ref f25) = true)
    {f26 : Addr} {od26 an26 : Option Addr} {sl26 : Array (Option Value)} {oc26 kV26 dc26 pm26 cd26 ct26 : Value}
    (a26 : PySem.W.nsIn K mainGlobals "_law_crowds" = some (some (.ref f26))) (l26 : K.lookup f26 = some ⟨oc26, od26, .func (PySem.W.fnOf "_law_crowds" "_law_crowds" (defArgs s__law_crowds) (defBody s__law_crowds) (defScope s__law_crowds) .none kV26 dc26 pm26 an26 cd26 ct26), sl26⟩) (c26 : PySem.W.codeIn K cd26 "_law_crowds" = true) (k26 : PySem.W.keepIn K (.ref f26) = true)
    {f27 : Addr} {od27 an27 : Option Addr} {sl27 : Array (Option Value)} {oc27 kV27 dc27 pm27 cd27 ct27 : Value}
    (a27 : PySem.W.nsIn K mainGlobals "_law_busy" = some (some (.ref f27))) (l27 : K.lookup f27 = some ⟨oc27, od27, .func (PySem.W.fnOf "_law_busy" "_law_busy" (defArgs s__law_busy) (defBody s__law_busy) (defScope s__law_busy) .none kV27 dc27 pm27 an27 cd27 ct27), sl27⟩) (c27 : PySem.W.codeIn K cd27 "_law_busy" = true) (k27 : PySem.W.keepIn K (.ref f27) = true)
    {f28 : Addr} {od28 an28 : Option Addr} {sl28 : Array (Option Value)} {oc28 kV28 dc28 pm28 cd28 ct28 : Value}
    (a28 : PySem.W.nsIn K mainGlobals "_law_sides_judged" = some (some (.ref f28))) (l28 : K.lookup f28 = some ⟨oc28, od28, .func (PySem.W.fnOf "_law_sides_judged" "_law_sides_judged" (defArgs s__law_sides_judged) (defBody s__law_sides_judged) (defScope s__law_sides_judged) .none kV28 dc28 pm28 an28 cd28 ct28), sl28⟩) (c28 : PySem.W.codeIn K cd28 "_law_sides_judged" = true) (k28 : PySem.W.keepIn K (.ref f28) = true)
    {f29 : Addr} {od29 an29 : Option Addr} {sl29 : Array (Option Value)} {oc29 kV29 dc29 pm29 cd29 ct29 : Value}
    (a29 : PySem.W.nsIn K mainGlobals "_law_ring" = some (some (.ref f29))) (l29 : K.lookup f29 = some ⟨oc29, od29, .func (PySem.W.fnOf "_law_ring" "_law_ring" (defArgs s__law_ring) (defBody s__law_ring) (defScope s__law_ring) .none kV29 dc29 pm29 an29 cd29 ct29), sl29⟩) (c29 : PySem.W.codeIn K cd29 "_law_ring" = true) (k29 : PySem.W.keepIn K (.ref f29) = true)
    {f30 : Addr} {od30 an30 : Option Addr} {sl30 : Array (Option Value)} {oc30 kV30 dc30 pm30 cd30 ct30 : Value}
    (a30 : PySem.W.nsIn K mainGlobals "_law_rings" = some (some (.ref f30))) (l30 : K.lookup f30 = some ⟨oc30, od30, .func (PySem.W.fnOf "_law_rings" "_law_rings" (defArgs s__law_rings) (defBody s__law_rings) (defScope s__law_rings) .none kV30 dc30 pm30 an30 cd30 ct30), sl30⟩) (c30 : PySem.W.codeIn K cd30 "_law_rings" = true) (k30 : PySem.W.keepIn K (.ref f30) = true)
    {f31 : Addr} {od31 an31 : Option Addr} {sl31 : Array (Option Value)} {oc31 kV31 dc31 pm31 cd31 ct31 : Value}
    (a31 : PySem.W.nsIn K mainGlobals "_law_odd" = some (some (.ref f31))) (l31 : K.lookup f31 = some ⟨oc31, od31, .func (PySem.W.fnOf "_law_odd" "_law_odd" (defArgs s__law_odd) (defBody s__law_odd) (defScope s__law_odd) .none kV31 dc31 pm31 an31 cd31 ct31), sl31⟩) (c31 : PySem.W.codeIn K cd31 "_law_odd" = true) (k31 : PySem.W.keepIn K (.ref f31) = true)
    {f32 : Addr} {od32 an32 : Option Addr} {sl32 : Array (Option Value)} {oc32 kV32 dc32 pm32 cd32 ct32 : Value}
    (a32 : PySem.W.nsIn K mainGlobals "_law_people" = some (some (.ref f32))) (l32 : K.lookup f32 = some ⟨oc32, od32, .func (PySem.W.fnOf "_law_people" "_law_people" (defArgs s__law_people) (defBody s__law_people) (defScope s__law_people) .none kV32 dc32 pm32 an32 cd32 ct32), sl32⟩) (c32 : PySem.W.codeIn K cd32 "_law_people" = true) (k32 : PySem.W.keepIn K (.ref f32) = true)
    {f33 : Addr} {od33 an33 : Option Addr} {sl33 : Array (Option Value)} {oc33 kV33 dc33 pm33 cd33 ct33 : Value}
    (a33 : PySem.W.nsIn K mainGlobals "_law_shares" = some (some (.ref f33))) (l33 : K.lookup f33 = some ⟨oc33, od33, .func (PySem.W.fnOf "_law_shares" "_law_shares" (defArgs s__law_shares) (defBody s__law_shares) (defScope s__law_shares) .none kV33 dc33 pm33 an33 cd33 ct33), sl33⟩) (c33 : PySem.W.codeIn K cd33 "_law_shares" = true) (k33 : PySem.W.keepIn K (.ref f33) = true)
    {f34 : Addr} {od34 an34 : Option Addr} {sl34 : Array (Option Value)} {oc34 kV34 dc34 pm34 cd34 ct34 : Value}
    (a34 : PySem.W.nsIn K mainGlobals "law" = some (some (.ref f34))) (l34 : K.lookup f34 = some ⟨oc34, od34, .func (PySem.W.fnOf "law" "law" (defArgs s_law) (defBody s_law) (defScope s_law) .none kV34 dc34 pm34 an34 cd34 ct34), sl34⟩) (c34 : PySem.W.codeIn K cd34 "law" = true) (k34 : PySem.W.keepIn K (.ref f34) = true)
    (z_abs : PySem.W.nsIn K mainGlobals "abs" = some none)
    (z_bool : PySem.W.nsIn K mainGlobals "bool" = some none)
    (z_int : PySem.W.nsIn K mainGlobals "int" = some none)
    (z_isinstance : PySem.W.nsIn K mainGlobals "isinstance" = some none)
    (z_len : PySem.W.nsIn K mainGlobals "len" = some none)
    (z_list : PySem.W.nsIn K mainGlobals "list" = some none)
    (z_max : PySem.W.nsIn K mainGlobals "max" = some none)
    (z_min : PySem.W.nsIn K mainGlobals "min" = some none)
    (z_range : PySem.W.nsIn K mainGlobals "range" = some none)
    (z_sorted : PySem.W.nsIn K mainGlobals "sorted" = some none)
    (z_sum : PySem.W.nsIn K mainGlobals "sum" = some none)
    (z_tuple : PySem.W.nsIn K mainGlobals "tuple" = some none)
    (pure_law : ∀ ns : List Int, ns.length ≤ 63 → ∃ m', m_law [.d (.scr ns)] [] = some (.d (.bl true), m')) :
    ∃ fd : FuncData, (∀ (s : Shared) (v : Value), BindsTo s fd ⟨[v], []⟩ [("script", v)]) ∧ ∀ base : Heap, K.In base → base.Ns mainGlobals mg → FnOk l.prog w K mg base CX0 5 fa fd ["script"] (spLaw K) := by
  have e := hfa.symm.trans (PySem.W.mg_of X G a34)
  cases e
  have T : Tops K mg := ⟨PySem.W.mg_none_of X G z_abs, PySem.W.mg_none_of X G z_bool, PySem.W.mg_none_of X G z_int, PySem.W.mg_none_of X G z_isinstance, PySem.W.mg_none_of X G z_len, PySem.W.mg_none_of X G z_list, PySem.W.mg_none_of X G z_max, PySem.W.mg_none_of X G z_min, PySem.W.mg_none_of X G z_range, PySem.W.mg_none_of X G z_sorted, PySem.W.mg_none_of X G z_sum, PySem.W.mg_none_of X G z_tuple⟩
  have Z_meetings_of := at_of (x := "meetings_of") (ps := ["web", "person"]) (st := s_meetings_of) X G a0 l0 c0 k0 (fun _ _ _ _ _ _ us hl => match us, hl with | [_, _], _ => rfl)
  have Z_load := at_of (x := "load") (ps := ["web", "person"]) (st := s_load) X G a1 l1 c1 k1 (fun _ _ _ _ _ _ us hl => match us, hl with | [_, _], _ => rfl)
  have Z_two_in := at_of (x := "two_in") (ps := ["web", "people"]) (st := s_two_in) X G a2 l2 c2 k2 (fun _ _ _ _ _ _ us hl => match us, hl with | [_, _], _ => rfl)
  have Z_other_of := at_of (x := "other_of") (ps := ["web", "i", "person"]) (st := s_other_of) X G a3 l3 c3 k3 (fun _ _ _ _ _ _ us hl => match us, hl with | [_, _, _], _ => rfl)
  have Z_shows_busy := at_of (x := "shows_busy") (ps := ["web", "k", "person"]) (st := s_shows_busy) X G a4 l4 c4 k4 (fun _ _ _ _ _ _ us hl => match us, hl with | [_, _, _], _ => rfl)
  have Z_shows_crowd := at_of (x := "shows_crowd") (ps := ["web", "k", "people"]) (st := s_shows_crowd) X G a5 l5 c5 k5 (fun _ _ _ _ _ _ us hl => match us, hl with | [_, _, _], _ => rfl)
  have Z_odd_parts := at_of (x := "odd_parts") (ps := ["web", "people"]) (st := s_odd_parts) X G a6 l6 c6 k6 (fun _ _ _ _ _ _ us hl => match us, hl with | [_, _], _ => rfl)
  have Z_are_people := at_of (x := "are_people") (ps := ["web", "people"]) (st := s_are_people) X G a7 l7 c7 k7 (fun _ _ _ _ _ _ us hl => match us, hl with | [_, _], _ => rfl)
  have Z_shows_bar := at_of (x := "shows_bar") (ps := ["web", "m", "people"]) (st := s_shows_bar) X G a8 l8 c8 k8 (fun _ _ _ _ _ _ us hl => match us, hl with | [_, _, _], _ => rfl)
  have Z_shows_sides := at_of (x := "shows_sides") (ps := ["web", "paper"]) (st := s_shows_sides) X G a9 l9 c9 k9 (fun _ _ _ _ _ _ us hl => match us, hl with | [_, _], _ => rfl)
  have Z_shows_ring := at_of (x := "shows_ring") (ps := ["web", "people"]) (st := s_shows_ring) X G a10 l10 c10 k10 (fun _ _ _ _ _ _ us hl => match us, hl with | [_, _], _ => rfl)
  have Z_shows_shares := at_of (x := "shows_shares") (ps := ["web", "prices", "w", "paper"]) (st := s_shows_shares) X G a11 l11 c11 k11 (fun _ _ _ _ _ _ us hl => match us, hl with | [_, _, _, _], _ => rfl)
  have Z_shows_watch := at_of (x := "shows_watch") (ps := ["web", "people"]) (st := s_shows_watch) X G a12 l12 c12 k12 (fun _ _ _ _ _ _ us hl => match us, hl with | [_, _], _ => rfl)
  have Z__law_deal := at_of (x := "_law_deal") (ps := ["script"]) (st := s__law_deal) X G a13 l13 c13 k13 (fun _ _ _ _ _ _ us hl => match us, hl with | [_], _ => rfl)
  have Z__law_take := at_of (x := "_law_take") (ps := ["deal", "many"]) (st := s__law_take) X G a14 l14 c14 k14 (fun _ _ _ _ _ _ us hl => match us, hl with | [_, _], _ => rfl)
  have Z__law_bool := at_of (x := "_law_bool") (ps := ["answer", "due"]) (st := s__law_bool) X G a15 l15 c15 k15 (fun _ _ _ _ _ _ us hl => match us, hl with | [_, _], _ => rfl)
  have Z__law_plain := at_of (x := "_law_plain") (ps := ["deal", "most", "limit"]) (st := s__law_plain) X G a16 l16 c16 k16 (fun _ _ _ _ _ _ us hl => match us, hl with | [_, _, _], _ => rfl)
  have Z__law_sided := at_of (x := "_law_sided") (ps := ["deal", "most", "limit"]) (st := s__law_sided) X G a17 l17 c17 k17 (fun _ _ _ _ _ _ us hl => match us, hl with | [_, _, _], _ => rfl)
  have Z__law_any := at_of (x := "_law_any") (ps := ["deal", "limit"]) (st := s__law_any) X G a18 l18 c18 k18 (fun _ _ _ _ _ _ us hl => match us, hl with | [_, _], _ => rfl)
  have Z__law_few := at_of (x := "_law_few") (ps := ["deal"]) (st := s__law_few) X G a19 l19 c19 k19 (fun _ _ _ _ _ _ us hl => match us, hl with | [_], _ => rfl)
  have Z__law_web := at_of (x := "_law_web") (ps := ["deal", "limit"]) (st := s__law_web) X G a20 l20 c20 k20 (fun _ _ _ _ _ _ us hl => match us, hl with | [_, _], _ => rfl)
  have Z__law_order := at_of (x := "_law_order") (ps := ["deal", "many"]) (st := s__law_order) X G a21 l21 c21 k21 (fun _ _ _ _ _ _ us hl => match us, hl with | [_, _], _ => rfl)
  have Z__law_sides := at_of (x := "_law_sides") (ps := ["web"]) (st := s__law_sides) X G a22 l22 c22 k22 (fun _ _ _ _ _ _ us hl => match us, hl with | [_], _ => rfl)
  have Z__law_rows := at_of (x := "_law_rows") (ps := ["web"]) (st := s__law_rows) X G a23 l23 c23 k23 (fun _ _ _ _ _ _ us hl => match us, hl with | [_], _ => rfl)
  have Z__law_sorted := at_of (x := "_law_sorted") (ps := ["web", "people"]) (st := s__law_sorted) X G a24 l24 c24 k24 (fun _ _ _ _ _ _ us hl => match us, hl with | [_, _], _ => rfl)
  have Z__law_inside := at_of (x := "_law_inside") (ps := ["web", "people"]) (st := s__law_inside) X G a25 l25 c25 k25 (fun _ _ _ _ _ _ us hl => match us, hl with | [_, _], _ => rfl)
  have Z__law_crowds := at_of (x := "_law_crowds") (ps := ["deal"]) (st := s__law_crowds) X G a26 l26 c26 k26 (fun _ _ _ _ _ _ us hl => match us, hl with | [_], _ => rfl)
  have Z__law_busy := at_of (x := "_law_busy") (ps := ["web"]) (st := s__law_busy) X G a27 l27 c27 k27 (fun _ _ _ _ _ _ us hl => match us, hl with | [_], _ => rfl)
  have Z__law_sides_judged := at_of (x := "_law_sides_judged") (ps := ["deal", "web"]) (st := s__law_sides_judged) X G a28 l28 c28 k28 (fun _ _ _ _ _ _ us hl => match us, hl with | [_, _], _ => rfl)
  have Z__law_ring := at_of (x := "_law_ring") (ps := ["web", "people"]) (st := s__law_ring) X G a29 l29 c29 k29 (fun _ _ _ _ _ _ us hl => match us, hl with | [_, _], _ => rfl)
  have Z__law_rings := at_of (x := "_law_rings") (ps := ["deal"]) (st := s__law_rings) X G a30 l30 c30 k30 (fun _ _ _ _ _ _ us hl => match us, hl with | [_], _ => rfl)
  have Z__law_odd := at_of (x := "_law_odd") (ps := ["web", "people"]) (st := s__law_odd) X G a31 l31 c31 k31 (fun _ _ _ _ _ _ us hl => match us, hl with | [_, _], _ => rfl)
  have Z__law_people := at_of (x := "_law_people") (ps := ["deal", "web"]) (st := s__law_people) X G a32 l32 c32 k32 (fun _ _ _ _ _ _ us hl => match us, hl with | [_, _], _ => rfl)
  have Z__law_shares := at_of (x := "_law_shares") (ps := ["deal"]) (st := s__law_shares) X G a33 l33 c33 k33 (fun _ _ _ _ _ _ us hl => match us, hl with | [_], _ => rfl)
  have Z_law := at_of (x := "law") (ps := ["script"]) (st := s_law) X G a34 l34 c34 k34 (fun _ _ _ _ _ _ us hl => match us, hl with | [_], _ => rfl)
  exact ⟨_, fun s v => .of_eq rfl, fun base _ _ => (ok_all T Z_meetings_of Z_load Z_two_in Z_other_of Z_shows_busy Z_shows_crowd Z_odd_parts Z_are_people Z_shows_bar Z_shows_sides Z_shows_ring Z_shows_shares Z_shows_watch Z__law_deal Z__law_take Z__law_bool Z__law_plain Z__law_sided Z__law_any Z__law_few Z__law_web Z__law_order Z__law_sides Z__law_rows Z__law_sorted Z__law_inside Z__law_crowds Z__law_busy Z__law_sides_judged Z__law_ring Z__law_rings Z__law_odd Z__law_people Z__law_shares Z_law).imp (law_imp pure_law)⟩
section
end
end Lw
open PySem PySem.W PyProof.Rows
set_option maxHeartbeats 0 in
theorem PySem.Challenge.cw_meetingdays_k35_judges_of_people_holds : PySem.Challenge.rw_meetingdays_k35_judges_of_people.Holds := by
  w_on; o_law; k_head; (case hw => w_witness2)
  k_fill
  refine L2.walk_of (l := PySem.Challenge.rw_meetingdays_k35_judges_of_people) (n := 63) (k := 5) (x := "script") (CX := fun _ => L2.CX0) (sp := fun w => PL.spLaw _) rfl (by decide) rfl ⟨rfl, by decide, by decide⟩ (fun w h Y => PySem.W.kIn_of Y) ?F (fun _ _ a ns hl _ hS => ⟨a, ns, rfl, hS, hl, fun _ => rfl⟩) (fun _ _ _ _ _ h => h)
  case F =>
    intro w mg fa h KX G hmg
    refine' Lw.all_mk KX G hmg ?a0 ?l0 ?c0 ?k0 ?a1 ?l1 ?c1 ?k1 ?a2 ?l2 ?c2 ?k2 ?a3 ?l3 ?c3 ?k3 ?a4 ?l4 ?c4 ?k4 ?a5 ?l5 ?c5 ?k5 ?a6 ?l6 ?c6 ?k6 ?a7 ?l7 ?c7 ?k7 ?a8 ?l8 ?c8 ?k8 ?a9 ?l9 ?c9 ?k9 ?a10 ?l10 ?c10 ?k10 ?a11 ?l11 ?c11 ?k11 ?a12 ?l12 ?c12 ?k12 ?a13 ?l13 ?c13 ?k13 ?a14 ?l14 ?c14 ?k14 ?a15 ?l15 ?c15 ?k15 ?a16 ?l16 ?c16 ?k16 ?a17 ?l17 ?c17 ?k17 ?a18 ?l18 ?c18 ?k18 ?a19 ?l19 ?c19 ?k19 ?a20 ?l20 ?c20 ?k20 ?a21 ?l21 ?c21 ?k21 ?a22 ?l22 ?c22 ?k22 ?a23 ?l23 ?c23 ?k23 ?a24 ?l24 ?c24 ?k24 ?a25 ?l25 ?c25 ?k25 ?a26 ?l26 ?c26 ?k26 ?a27 ?l27 ?c27 ?k27 ?a28 ?l28 ?c28 ?k28 ?a29 ?l29 ?c29 ?k29 ?a30 ?l30 ?c30 ?k30 ?a31 ?l31 ?c31 ?k31 ?a32 ?l32 ?c32 ?k32 ?a33 ?l33 ?c33 ?k33 ?a34 ?l34 ?c34 ?k34 ?z_abs ?z_bool ?z_int ?z_isinstance ?z_len ?z_list ?z_max ?z_min ?z_range ?z_sorted ?z_sum ?z_tuple Lw.pure_law
    (case a0 => k_is)
    (case l0 => k_is)
    (case c0 => k_is)
    (case k0 => k_is)
    (case a1 => k_is)
    (case l1 => k_is)
    (case c1 => k_is)
    (case k1 => k_is)
    (case a2 => k_is)
    (case l2 => k_is)
    (case c2 => k_is)
    (case k2 => k_is)
    (case a3 => k_is)
    (case l3 => k_is)
    (case c3 => k_is)
    (case k3 => k_is)
    (case a4 => k_is)
    (case l4 => k_is)
    (case c4 => k_is)
    (case k4 => k_is)
    (case a5 => k_is)
    (case l5 => k_is)
    (case c5 => k_is)
    (case k5 => k_is)
    (case a6 => k_is)
    (case l6 => k_is)
    (case c6 => k_is)
    (case k6 => k_is)
    (case a7 => k_is)
    (case l7 => k_is)
    (case c7 => k_is)
    (case k7 => k_is)
    (case a8 => k_is)
    (case l8 => k_is)
    (case c8 => k_is)
    (case k8 => k_is)
    (case a9 => k_is)
    (case l9 => k_is)
    (case c9 => k_is)
    (case k9 => k_is)
    (case a10 => k_is)
    (case l10 => k_is)
    (case c10 => k_is)
    (case k10 => k_is)
    (case a11 => k_is)
    (case l11 => k_is)
    (case c11 => k_is)
    (case k11 => k_is)
    (case a12 => k_is)
    (case l12 => k_is)
    (case c12 => k_is)
    (case k12 => k_is)
    (case a13 => k_is)
    (case l13 => k_is)
    (case c13 => k_is)
    (case k13 => k_is)
    (case a14 => k_is)
    (case l14 => k_is)
    (case c14 => k_is)
    (case k14 => k_is)
    (case a15 => k_is)
    (case l15 => k_is)
    (case c15 => k_is)
    (case k15 => k_is)
    (case a16 => k_is)
    (case l16 => k_is)
    (case c16 => k_is)
    (case k16 => k_is)
    (case a17 => k_is)
    (case l17 => k_is)
    (case c17 => k_is)
    (case k17 => k_is)
    (case a18 => k_is)
    (case l18 => k_is)
    (case c18 => k_is)
    (case k18 => k_is)
    (case a19 => k_is)
    (case l19 => k_is)
    (case c19 => k_is)
    (case k19 => k_is)
    (case a20 => k_is)
    (case l20 => k_is)
    (case c20 => k_is)
    (case k20 => k_is)
    (case a21 => k_is)
    (case l21 => k_is)
    (case c21 => k_is)
    (case k21 => k_is)
    (case a22 => k_is)
    (case l22 => k_is)
    (case c22 => k_is)
    (case k22 => k_is)
    (case a23 => k_is)
    (case l23 => k_is)
    (case c23 => k_is)
    (case k23 => k_is)
    (case a24 => k_is)
    (case l24 => k_is)
    (case c24 => k_is)
    (case k24 => k_is)
    (case a25 => k_is)
    (case l25 => k_is)
    (case c25 => k_is)
    (case k25 => k_is)
    (case a26 => k_is)
    (case l26 => k_is)
    (case c26 => k_is)
    (case k26 => k_is)
    (case a27 => k_is)
    (case l27 => k_is)
    (case c27 => k_is)
    (case k27 => k_is)
    (case a28 => k_is)
    (case l28 => k_is)
    (case c28 => k_is)
    (case k28 => k_is)
    (case a29 => k_is)
    (case l29 => k_is)
    (case c29 => k_is)
    (case k29 => k_is)
    (case a30 => k_is)
    (case l30 => k_is)
    (case c30 => k_is)
    (case k30 => k_is)
    (case a31 => k_is)
    (case l31 => k_is)
    (case c31 => k_is)
    (case k31 => k_is)
    (case a32 => k_is)
    (case l32 => k_is)
    (case c32 => k_is)
    (case k32 => k_is)
    (case a33 => k_is)
    (case l33 => k_is)
    (case c33 => k_is)
    (case k33 => k_is)
    (case a34 => k_is)
    (case l34 => k_is)
    (case c34 => k_is)
    (case k34 => k_is)
    (case z_abs => k_is)
    (case z_bool => k_is)
    (case z_int => k_is)
    (case z_isinstance => k_is)
    (case z_len => k_is)
    (case z_list => k_is)
    (case z_max => k_is)
    (case z_min => k_is)
    (case z_range => k_is)
    (case z_sorted => k_is)
    (case z_sum => k_is)
    (case z_tuple => k_is)
