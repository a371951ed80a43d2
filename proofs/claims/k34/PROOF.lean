import PyProof.Rows.All
import Wide.All
import OpenK.AllK
import Wide.FinOn
import HandS.ForMost
import HandS.TupAny
import HandS.Conv
import HandS.Deep
import HandS.Style
import HandS.IsInst
import HandS.SetFor
import HandS.Zip
import HandS.DictComp
import PySem.Challenge.RW_meetingdays_k34_judges_of_days
set_option Elab.async false
set_option linter.all false
set_option maxRecDepth 100000
set_option maxHeartbeats 4000000
/-! PL1: pure data over the hand layer: values as trees, owned cells, judgements by functions. -/
namespace PL
open PySem PySem.Spec L2
set_option autoImplicit false

inductive D where
  | non | bl (b : Bool) | int (i : Int) | str (x : Str) | tup (xs : List D) | lst (xs : List D)
  | dic (kvs : List (Key × D)) | dicT (kvs : List (List Key × D)) | scr (xs : List Int)
noncomputable instance : DecidableEq D := fun _ _ => Classical.propDecidable _
inductive E where
  | d (x : D) | own (c : Nat) | deal (row : List Int) (c : Nat) (t : Int)
inductive O where
  | lst (xs : List D) | dic (kvs : List (Key × D)) | dicT (kvs : List (List Key × D)) | frz (x : D)
abbrev Store := List O
abbrev Rho := List (Option E)

mutual
inductive Rep (K : PySem.W.Frag) (F : Hp) : V → D → Prop
  | non : Rep K F .non .non
  | bl {b : Bool} : Rep K F (.bl b) (.bl b)
  | int {i : Int} : Rep K F (.int i) (.int i)
  | str {x : Str} : Rep K F (.str x) (.str x)
  | tup {a : Addr} {vs : List V} {ds : List D} : F a = some (.tup vs) → vs.length ≤ sizeLine → Reps K F vs ds → Rep K F (.ref a) (.tup ds)
  | lst {a : Addr} {vs : List V} {ds : List D} : F a = some (.lst vs) → vs.length ≤ sizeLine → Reps K F vs ds → Rep K F (.ref a) (.lst ds)
  | dic {a : Addr} {vs : List (Key × V)} {ds : List (Key × D)} : F a = some (.dK vs) → KReps K F vs ds → Rep K F (.ref a) (.dic ds)
  | dicT {a : Addr} {vs : List (List Key × V)} {ds : List (List Key × D)} : F a = some (.dT vs) → TReps K F vs ds → Rep K F (.ref a) (.dicT ds)
  | scr {a : Addr} {ns : List Int} : SqL K F a (ns.map V.int) → ns.length ≤ sizeLine → Rep K F (.ref a) (.scr ns)
inductive Reps (K : PySem.W.Frag) (F : Hp) : List V → List D → Prop
  | nil : Reps K F [] []
  | cons {v : V} {d : D} {vs : List V} {ds : List D} : Rep K F v d → Reps K F vs ds → Reps K F (v :: vs) (d :: ds)
inductive KReps (K : PySem.W.Frag) (F : Hp) : List (Key × V) → List (Key × D) → Prop
  | nil : KReps K F [] []
  | cons {k : Key} {v : V} {d : D} {vs : List (Key × V)} {ds : List (Key × D)} : Rep K F v d → KReps K F vs ds → KReps K F ((k, v) :: vs) ((k, d) :: ds)
inductive TReps (K : PySem.W.Frag) (F : Hp) : List (List Key × V) → List (List Key × D) → Prop
  | nil : TReps K F [] []
  | cons {k : List Key} {v : V} {d : D} {vs : List (List Key × V)} {ds : List (List Key × D)} : Rep K F v d → TReps K F vs ds → TReps K F ((k, v) :: vs) ((k, d) :: ds)
end

/-- the frozen part lies in the heap; its dicts may be locked -/
def isDct : HO → Bool
  | .dK _ => true
  | .dT _ => true
  | _ => false
def FSub (F H : Hp) : Prop := ∀ a o, F a = some o → H a = some o ∨ (isDct o = true ∧ ∃ od, H a = some (.frz od o))

section
variable {K : PySem.W.Frag} {F F' H H' : Hp}
theorem SqT.mono {a : Addr} {vs : List V} (h : Same F F') (r : SqT K F a vs) : SqT K F' a vs := by
  rcases r with (r | ⟨o, r⟩) | r
  · exact .inl (.inl (h _ _ r))
  · exact .inl (.inr ⟨o, h _ _ r⟩)
  · exact .inr r
theorem SqL.mono {a : Addr} {vs : List V} (h : Same F F') (r : SqL K F a vs) : SqL K F' a vs := h.seq r
mutual
theorem Rep.mono (h : Same F F') : ∀ {v : V} {d : D}, Rep K F v d → Rep K F' v d
  | _, _, .non => .non
  | _, _, .bl => .bl
  | _, _, .int => .int
  | _, _, .str => .str
  | _, _, .tup a z b => .tup (h _ _ a) z (Reps.mono h b)
  | _, _, .lst a z b => .lst (h _ _ a) z (Reps.mono h b)
  | _, _, .dic a b => .dic (h _ _ a) (KReps.mono h b)
  | _, _, .dicT a b => .dicT (h _ _ a) (TReps.mono h b)
  | _, _, .scr a z => .scr (SqL.mono h a) z
theorem Reps.mono (h : Same F F') : ∀ {v : List V} {d : List D}, Reps K F v d → Reps K F' v d
  | _, _, .nil => .nil
  | _, _, .cons a b => .cons (Rep.mono h a) (Reps.mono h b)
theorem KReps.mono (h : Same F F') : ∀ {v : List (Key × V)} {d : List (Key × D)}, KReps K F v d → KReps K F' v d
  | _, _, .nil => .nil
  | _, _, .cons a b => .cons (Rep.mono h a) (KReps.mono h b)
theorem TReps.mono (h : Same F F') : ∀ {v : List (List Key × V)} {d : List (List Key × D)}, TReps K F v d → TReps K F' v d
  | _, _, .nil => .nil
  | _, _, .cons a b => .cons (Rep.mono h a) (TReps.mono h b)
end
theorem Reps.length : ∀ {vs : List V} {ds : List D}, Reps K F vs ds → vs.length = ds.length
  | _, _, .nil => rfl
  | _, _, .cons _ b => congrArg (· + 1) (Reps.length b)
theorem Reps.get : ∀ {vs : List V} {ds : List D} {i : Nat} {d : D}, Reps K F vs ds → ds[i]? = some d → ∃ v, vs[i]? = some v ∧ Rep K F v d
  | _, _, _, _, .nil, e => by simp at e
  | _, _, 0, _, .cons a _, e => by simp at e; subst e; exact ⟨_, rfl, a⟩
  | _, _, i + 1, _, .cons _ b, e => by
    obtain ⟨v, h1, h2⟩ := Reps.get (i := i) b (by simpa using e)
    exact ⟨v, by simpa using h1, h2⟩
theorem Reps.append : ∀ {vs ws : List V} {ds es : List D}, Reps K F vs ds → Reps K F ws es → Reps K F (vs ++ ws) (ds ++ es)
  | _, _, _, _, .nil, h => h
  | _, _, _, _, .cons a b, h => .cons a (Reps.append b h)
theorem Reps.take : ∀ {vs : List V} {ds : List D} (n : Nat), Reps K F vs ds → Reps K F (vs.take n) (ds.take n)
  | _, _, 0, _ => .nil
  | _, _, _ + 1, .nil => .nil
  | _, _, n + 1, .cons a b => .cons a (Reps.take n b)
theorem Reps.drop : ∀ {vs : List V} {ds : List D} (n : Nat), Reps K F vs ds → Reps K F (vs.drop n) (ds.drop n)
  | _, _, 0, r => r
  | _, _, _ + 1, .nil => .nil
  | _, _, n + 1, .cons _ b => Reps.drop n b
theorem Reps.set {v : V} {d : D} (r : Rep K F v d) : ∀ {vs : List V} {ds : List D} (i : Nat), Reps K F vs ds → Reps K F (vs.set i v) (ds.set i d)
  | _, _, _, .nil => .nil
  | _, _, 0, .cons _ b => .cons r b
  | _, _, i + 1, .cons a b => .cons a (Reps.set r i b)
theorem Reps.rev : ∀ {vs : List V} {ds : List D}, Reps K F vs ds → Reps K F vs.reverse ds.reverse
  | _, _, .nil => .nil
  | _, _, .cons a b => by
    rw [List.reverse_cons, List.reverse_cons]
    exact (Reps.rev b).append (.cons a .nil)
theorem Reps.ints : ∀ {vs : List V} {ns : List Int}, Reps K F vs (ns.map D.int) → vs = ns.map V.int
  | _, [], .nil => rfl
  | _, n :: ns, .cons a b => by
    cases a
    rw [List.map_cons, Reps.ints b]
theorem Reps.of_ints : ∀ (ns : List Int), Reps K F (ns.map V.int) (ns.map D.int)
  | [] => .nil
  | n :: ns => .cons .int (Reps.of_ints ns)
theorem Reps.bls : ∀ {vs : List V} {ns : List Bool}, Reps K F vs (ns.map D.bl) → vs = ns.map V.bl
  | _, [], .nil => rfl
  | _, n :: ns, .cons a b => by
    cases a
    rw [List.map_cons, Reps.bls b]
end

/-! ### cells -/
def CellOk (K : PySem.W.Frag) (H F : Hp) (a : Addr) : O → Prop
  | .lst ds => F a = none ∧ ds.length ≤ sizeLine ∧ ∃ vs, H a = some (.lst vs) ∧ Reps K F vs ds
  | .dic ds => F a = none ∧ ∃ vs, H a = some (.dK vs) ∧ KReps K F vs ds
  | .dicT ds => F a = none ∧ ∃ vs, H a = some (.dT vs) ∧ TReps K F vs ds
  | .frz x => Rep K F (.ref a) x
/-- the cells' addresses; what else stands and is to stand (lists in the making) -/
structure Cs where
  c : List Addr
  g : List (Addr × HO)
structure HeapOk (K : PySem.W.Frag) (H F : Hp) (as : Cs) (m : Store) : Prop where
  sub : FSub F H
  len : as.c.length = m.length
  nd : as.c.Nodup
  there : ∀ a ∈ as.c, H a ≠ none
  cell : ∀ (c : Nat) (a : Addr) (o : O), as.c[c]? = some a → m[c]? = some o → CellOk K H F a o
  prot : ∀ p ∈ as.g, H p.1 = some p.2 ∧ F p.1 = none ∧ p.1 ∉ as.c
  pnd : (as.g.map (·.1)).Nodup
/-- a value of the frame -/
inductive RepE (K : PySem.W.Frag) (F : Hp) (as : Cs) : V → E → Prop
  | d {v : V} {x : D} : Rep K F v x → RepE K F as v (.d x)
  | own {a : Addr} {c : Nat} : as.c[c]? = some a → RepE K F as (.ref a) (.own c)
  | deal {a r ca : Addr} {row : List Int} {c : Nat} {t : Int} : F a = some (.lst [.ref r, .ref ca, .int t]) → F r = some (.lst (row.map V.int)) → row.length ≤ sizeLine → as.c[c]? = some ca → RepE K F as (.ref a) (.deal row c t)
inductive RepEs (K : PySem.W.Frag) (F : Hp) (as : Cs) : List V → List E → Prop
  | nil : RepEs K F as [] []
  | cons {v : V} {e : E} {vs : List V} {es : List E} : RepE K F as v e → RepEs K F as vs es → RepEs K F as (v :: vs) (e :: es)
structure EnvOk (K : PySem.W.Frag) (F : Hp) (as : Cs) (σ : L2.St) (ρ : Rho) : Prop where
  len : σ.length = ρ.length
  get : ∀ (i : Nat) (e : E), ρ[i]? = some (some e) → ∃ v, σ[i]? = some (some v) ∧ RepE K F as v e
def Ext (F F' : Hp) (as as' : Cs) : Prop := Same F F' ∧ as.c <+: as'.c ∧ as'.g = as.g

section
variable {K : PySem.W.Frag} {F F' F2 H H' H2 : Hp} {as as' as2 : Cs} {m m' : Store} {v : V} {e : E} {σ : L2.St} {ρ : Rho}
theorem Ext.refl : Ext F F as as := ⟨Same.refl F, List.prefix_refl _, rfl⟩
theorem Ext.trans (a : Ext F F' as as') (b : Ext F' F2 as' as2) : Ext F F2 as as2 := ⟨a.1.trans b.1, a.2.1.trans b.2.1, b.2.2.trans a.2.2⟩
theorem pre_get {α : Type} {l l' : List α} {i : Nat} {x : α} (h : l <+: l') (e : l[i]? = some x) : l'[i]? = some x := by
  obtain ⟨t, rfl⟩ := h
  rw [List.getElem?_append_left (List.getElem?_eq_some_iff.mp e).1]
  exact e
theorem RepE.ext (h : Ext F F' as as') : RepE K F as v e → RepE K F' as' v e
  | .d r => .d (r.mono h.1)
  | .own r => .own (pre_get h.2.1 r)
  | .deal a b z c => .deal (h.1 _ _ a) (h.1 _ _ b) z (pre_get h.2.1 c)
theorem RepEs.ext (h : Ext F F' as as') : ∀ {vs : List V} {es : List E}, RepEs K F as vs es → RepEs K F' as' vs es
  | _, _, .nil => .nil
  | _, _, .cons a b => .cons (a.ext h) (b.ext h)
theorem EnvOk.ext (h : Ext F F' as as') (x : EnvOk K F as σ ρ) : EnvOk K F' as' σ ρ := ⟨x.len, fun i e q => let ⟨v, a, b⟩ := x.get i e q; ⟨v, a, b.ext h⟩⟩
theorem EnvOk.set (x : EnvOk K F as σ ρ) (i : Nat) (r : RepE K F as v e) : EnvOk K F as (σ.set i (some v)) (ρ.set i (some e)) := by
  refine ⟨by rw [List.length_set, List.length_set]; exact x.len, fun j e' q => ?_⟩
  by_cases hj : i = j
  · subst hj
    by_cases hl : i < ρ.length
    · rw [List.getElem?_set_self hl] at q
      cases q
      exact ⟨v, by rw [List.getElem?_set_self (by rw [x.len]; exact hl)], r⟩
    · rw [List.getElem?_eq_none (by rw [List.length_set]; omega)] at q
      cases q
  · rw [List.getElem?_set_ne hj] at q
    obtain ⟨w, a, b⟩ := x.get j e' q
    exact ⟨w, by rw [List.getElem?_set_ne hj]; exact a, b⟩
def wipeE (ρ : Rho) : List Nat → Rho
  | [] => ρ
  | v :: vs => (wipeE ρ vs).set v none
theorem EnvOk.wipe (x : EnvOk K F as σ ρ) : ∀ vs : List Nat, EnvOk K F as (wipe σ vs) (wipeE ρ vs)
  | [] => x
  | i :: vs => by
    have y := EnvOk.wipe x vs
    refine ⟨by show (List.set _ _ _).length = (List.set _ _ _).length; rw [List.length_set, List.length_set]; exact y.len, fun j e' q => ?_⟩
    have q : ((wipeE ρ vs).set i none)[j]? = some (some e') := q
    by_cases hj : i = j
    · subst hj
      by_cases hl : i < (wipeE ρ vs).length
      · rw [List.getElem?_set_self hl] at q
        cases q
      · rw [List.getElem?_eq_none (by rw [List.length_set]; omega)] at q
        cases q
    · rw [List.getElem?_set_ne hj] at q
      obtain ⟨w, a, b⟩ := y.get j e' q
      exact ⟨w, by show ((L2.wipe σ vs).set i none)[j]? = _; rw [List.getElem?_set_ne hj]; exact a, b⟩

/-- new objects may have come, what stood stands -/
structure Grow (H F H' F' : Hp) : Prop where
  old : ∀ a, H a ≠ none → H' a = H a ∧ F' a = F a
  sub : FSub F' H'
theorem Grow.refl (s : FSub F H) : Grow H F H F := ⟨fun _ _ => ⟨rfl, rfl⟩, s⟩
theorem Grow.trans {H1 F1 : Hp} (a : Grow H F H' F') (b : Grow H' F' H1 F1) : Grow H F H1 F1 := ⟨fun x q => by
  obtain ⟨a1, a2⟩ := a.old x q
  obtain ⟨b1, b2⟩ := b.old x (by rw [a1]; exact q)
  exact ⟨b1.trans a1, b2.trans a2⟩, b.sub⟩
theorem FSub.there (s : FSub F H) {a : Addr} {o : HO} (h : F a = some o) : H a ≠ none := by
  rcases s a o h with q | ⟨_, od, q⟩ <;> rw [q] <;> simp
theorem FSub.free (s : FSub F H) {a : Addr} (h : H a = none) : F a = none := by
  cases q : F a with
  | none => rfl
  | some o => exact absurd h (s.there q)
theorem Grow.same (s : FSub F H) (g : Grow H F H' F') : Same F F' := fun a o h => by rw [(g.old a (s.there h)).2]; exact h
theorem Grow.laid {p : Addr} {o : HO} (s : FSub F H) (h : H p = none) : Grow H F (upd H p o) (upd F p o) := by
  refine ⟨fun a q => ?_, fun a u q => ?_⟩
  · have n : a ≠ p := fun z => q (by rw [z]; exact h)
    exact ⟨upd_ne n, upd_ne n⟩
  · by_cases n : a = p
    · subst n
      rw [upd_same] at q ⊢
      exact .inl q
    · rw [upd_ne n] at q ⊢
      exact s a u q
theorem HeapOk.grow (x : HeapOk K H F as m) (g : Grow H F H' F') : HeapOk K H' F' as m := by
  have sm := g.same x.sub
  refine ⟨g.sub, x.len, x.nd, fun a q => by rw [(g.old a (x.there a q)).1]; exact x.there a q, fun c a o q1 q2 => ?_, fun p hp => ?_, x.pnd⟩
  case refine_2 =>
    obtain ⟨p1, p2, p3⟩ := x.prot p hp
    obtain ⟨e1, e2⟩ := g.old p.1 (by rw [p1]; simp)
    exact ⟨e1.trans p1, e2.trans p2, p3⟩
  have ha := x.there a (List.mem_of_getElem? q1)
  obtain ⟨e1, e2⟩ := g.old a ha
  have y := x.cell c a o q1 q2
  cases o with
  | lst ds => obtain ⟨y1, z, vs, y2, y3⟩ := y; exact ⟨e2.trans y1, z, vs, e1.trans y2, y3.mono sm⟩
  | dic ds => obtain ⟨y1, vs, y2, y3⟩ := y; exact ⟨e2.trans y1, vs, e1.trans y2, y3.mono sm⟩
  | dicT ds => obtain ⟨y1, vs, y2, y3⟩ := y; exact ⟨e2.trans y1, vs, e1.trans y2, y3.mono sm⟩
  | frz d => exact Rep.mono sm y
theorem HeapOk.ext (x : HeapOk K H F as m) (g : Grow H F H' F') : Ext F F' as as := ⟨g.same x.sub, List.prefix_refl _, rfl⟩
end
end PL
/-! PL2: expressions. -/
namespace PL
open PySem PySem.Spec L2
set_option autoImplicit false

abbrev Ex := Rho → Store → Option (E × Store)
abbrev Tx := Rho → Store → Option (Bool × Store)
abbrev Ax := Rho → Store → Option (List E × Store)

def tE (K : PySem.W.Frag) (f : Ex) : TE := fun σ H Q => ∃ ρ m F as e m', EnvOk K F as σ ρ ∧ HeapOk K H F as m ∧ f ρ m = some (e, m') ∧
  ∀ v H' F' as', Ext F F' as as' → HeapOk K H' F' as' m' → RepE K F' as' v e → Q v H'
def tT (K : PySem.W.Frag) (f : Tx) : TT := fun σ H Q => ∃ ρ m F as b m', EnvOk K F as σ ρ ∧ HeapOk K H F as m ∧ f ρ m = some (b, m') ∧
  ∀ H' F' as', Ext F F' as as' → HeapOk K H' F' as' m' → Q b H'
def tA (K : PySem.W.Frag) (f : Ax) : TA := fun σ H Q => ∃ ρ m F as es m', EnvOk K F as σ ρ ∧ HeapOk K H F as m ∧ f ρ m = some (es, m') ∧
  ∀ vs H' F' as', Ext F F' as as' → HeapOk K H' F' as' m' → RepEs K F' as' vs es → Q vs H'

section
variable {X : Cx} {e : Expr} {es : List Expr} {te te' : TE} {tt tt' : TT} {ta ta' : TA} {op : CmpOp} {a b : Expr}
theorem PE_imp (h : PE X e te) (i : ∀ σ H Q, te' σ H Q → te σ H Q) : PE X e te' := ⟨fun pins s σ H Q I q => h.run pins s σ H Q I (i σ H Q q)⟩
theorem PT_imp (h : PT X e tt) (i : ∀ σ H Q, tt' σ H Q → tt σ H Q) : PT X e tt' := ⟨fun pins s σ H Q I q => h.run pins s σ H Q I (i σ H Q q)⟩
theorem PW_imp (h : PW X e tt) (i : ∀ σ H Q, tt' σ H Q → tt σ H Q) : PW X e tt' := ⟨fun w pins s σ H Q I q => h.run w pins s σ H Q I (i σ H Q q)⟩
theorem PA_imp (h : PA X es ta) (i : ∀ σ H Q, ta' σ H Q → ta σ H Q) : PA X es ta' := ⟨fun p pins s σ H Q I q => h.run p pins s σ H Q I (i σ H Q q)⟩
end

/-! ### what is known of a value's data -/
def look (m : Store) : E → Option D
  | .d x => some x
  | .own c => match m[c]? with
    | some (.lst xs) => some (.lst xs)
    | some (.dic k) => some (.dic k)
    | some (.dicT k) => some (.dicT k)
    | some (.frz x) => some x
    | none => none
  | .deal _ _ _ => none
inductive RepL (K : PySem.W.Frag) (H F : Hp) : V → D → Prop
  | of {v : V} {d : D} : Rep K F v d → RepL K H F v d
  | lst {a : Addr} {vs : List V} {ds : List D} : H a = some (.lst vs) → vs.length ≤ sizeLine → Reps K F vs ds → RepL K H F (.ref a) (.lst ds)
  | dic {a : Addr} {vs : List (Key × V)} {ds : List (Key × D)} : H a = some (.dK vs) → KReps K F vs ds → RepL K H F (.ref a) (.dic ds)
  | dicT {a : Addr} {vs : List (List Key × V)} {ds : List (List Key × D)} : H a = some (.dT vs) → TReps K F vs ds → RepL K H F (.ref a) (.dicT ds)
section
variable {K : PySem.W.Frag} {F F' H H' : Hp} {as as' : Cs} {m m' : Store} {v : V} {e : E}
theorem look_rep {d : D} (x : HeapOk K H F as m) (r : RepE K F as v e) (l : look m e = some d) : RepL K H F v d := by
  cases r with
  | d r => cases l; exact .of r
  | @own a c r =>
    unfold look at l
    cases q : m[c]? with
    | none => simp only [q] at l; cases l
    | some o =>
      have y := x.cell c a o r q
      simp only [q] at l
      cases o with
      | lst ds =>
        cases l
        obtain ⟨_, z, vs, y2, y3⟩ := y
        exact .lst y2 (by rw [y3.length]; exact z) y3
      | dic ds => cases l; obtain ⟨_, vs, y2, y3⟩ := y; exact .dic y2 y3
      | dicT ds => cases l; obtain ⟨_, vs, y2, y3⟩ := y; exact .dicT y2 y3
      | frz d => cases l; exact .of y
  | deal => cases l
theorem RepL.int {i : Int} (r : RepL K H F v (.int i)) : v = .int i := by cases r with | of r => cases r; rfl
theorem RepL.bl {i : Bool} (r : RepL K H F v (.bl i)) : v = .bl i := by cases r with | of r => cases r; rfl
theorem RepL.str {i : Str} (r : RepL K H F v (.str i)) : v = .str i := by cases r with | of r => cases r; rfl
theorem RepL.non (r : RepL K H F v .non) : v = .non := by cases r with | of r => cases r; rfl
theorem RepL.tup {ds : List D} (s : FSub F H) (r : RepL K H F v (.tup ds)) : ∃ a vs, v = .ref a ∧ F a = some (.tup vs) ∧ H a = some (.tup vs) ∧ vs.length ≤ sizeLine ∧ Reps K F vs ds := by
  cases r with
  | of r =>
    cases r with
    | @tup a vs _ h1 h2 h3 =>
      refine ⟨a, vs, rfl, h1, ?_, h2, h3⟩
      rcases s _ _ h1 with q | ⟨q, _⟩
      · exact q
      · cases q
theorem RepL.list {ds : List D} (s : FSub F H) (r : RepL K H F v (.lst ds)) : ∃ a vs, v = .ref a ∧ H a = some (.lst vs) ∧ vs.length ≤ sizeLine ∧ Reps K F vs ds := by
  cases r with
  | of r =>
    cases r with
    | @lst a vs _ h1 h2 h3 =>
      refine ⟨a, vs, rfl, ?_, h2, h3⟩
      rcases s _ _ h1 with q | ⟨q, _⟩
      · exact q
      · cases q
  | @lst a vs _ h1 h2 h3 => exact ⟨a, vs, rfl, h1, h2, h3⟩
theorem RepL.dict {ds : List (Key × D)} (s : FSub F H) (r : RepL K H F v (.dic ds)) : ∃ a vs, v = .ref a ∧ Rd H a (.dK vs) ∧ KReps K F vs ds := by
  cases r with
  | of r =>
    cases r with
    | @dic a vs _ h1 h2 =>
      refine ⟨a, vs, rfl, ?_, h2⟩
      rcases s _ _ h1 with q | ⟨_, od, q⟩
      · exact .inl q
      · exact .inr ⟨od, q⟩
  | @dic a vs _ h1 h2 => exact ⟨a, vs, rfl, .inl h1, h2⟩
theorem RepL.dictT {ds : List (List Key × D)} (s : FSub F H) (r : RepL K H F v (.dicT ds)) : ∃ a vs, v = .ref a ∧ Rd H a (.dT vs) ∧ TReps K F vs ds := by
  cases r with
  | of r =>
    cases r with
    | @dicT a vs _ h1 h2 =>
      refine ⟨a, vs, rfl, ?_, h2⟩
      rcases s _ _ h1 with q | ⟨_, od, q⟩
      · exact .inl q
      · exact .inr ⟨od, q⟩
  | @dicT a vs _ h1 h2 => exact ⟨a, vs, rfl, .inl h1, h2⟩
theorem FSub.sqL (s : FSub F H) {a : Addr} {vs : List V} (r : SqL K F a vs) : SqL K H a vs := by
  rcases r with (r | ⟨o, r⟩) | r
  · rcases s _ _ r with q | ⟨q, _⟩
    · exact .inl (.inl q)
    · cases q
  · rcases s _ _ r with q | ⟨q, _⟩
    · exact .inl (.inr ⟨o, q⟩)
    · cases q
  · exact .inr r
theorem RepL.scr {ns : List Int} (s : FSub F H) (r : RepL K H F v (.scr ns)) : ∃ a, v = .ref a ∧ SqL K H a (ns.map V.int) := by
  cases r with
  | of r =>
    cases r with
    | @scr a _ h1 h2 => exact ⟨a, rfl, s.sqL h1⟩
end

/-! ### names, constants -/
def eV (i : Nat) : Ex := fun ρ m => match ρ[i]? with
  | some (some e) => some (e, m)
  | _ => none
def eC (d : D) : Ex := fun _ m => some (.d d, m)
section
variable {X : Cx} {pos : Pos}
theorem r_var {i : Nat} {e : Expr} (h : PE X e (tVar i)) : PE X e (tE X.K (eV i)) := by
  refine PE_imp h fun σ H Q h => ?_
  obtain ⟨ρ, m, F, as, e, m', env, hp, hf, q⟩ := h
  unfold eV at hf
  cases w : ρ[i]? with
  | none => simp only [w] at hf; cases hf
  | some o =>
    cases o with
    | none => simp only [w] at hf; cases hf
    | some e' =>
      simp only [w] at hf
      cases hf
      obtain ⟨v, e1, r⟩ := env.get i e w
      exact ⟨v, e1, q v H F as Ext.refl hp r⟩
theorem r_const {e : Expr} {v : V} {d : D} (h : PE X e (tC v)) (r : ∀ F : Hp, Rep X.K F v d) : PE X e (tE X.K (eC d)) := by
  refine PE_imp h fun σ H Q h => ?_
  obtain ⟨ρ, m, F, as, e, m', env, hp, hf, q⟩ := h
  cases hf
  exact q v H F as Ext.refl hp (.d (r F))
theorem r_int {i : Int} {j : Nat} : PE X (.Constant (.int i) j pos) (tE X.K (eC (.int i))) := r_const pe_int fun _ => .int
theorem r_bl {i : Bool} {j : Nat} : PE X (.Constant (.bool i) j pos) (tE X.K (eC (.bl i))) := r_const pe_bl fun _ => .bl
theorem r_non {j : Nat} : PE X (.Constant .none j pos) (tE X.K (eC .non)) := r_const pe_non fun _ => .non
theorem r_str {x : Str} {j : Nat} : PE X (.Constant (.str x) j pos) (tE X.K (eC (.str x))) := r_const pe_str fun _ => .str
end

/-! ### two values -/
abbrev G2 := E → E → Store → Option (E × Store)
def eBin (g : G2) (fa fb : Ex) : Ex := fun ρ m => (fa ρ m).bind fun p => (fb ρ p.2).bind fun q => g p.1 q.1 q.2
def R2Ok (K : PySem.W.Frag) (r : R2) (g : G2) : Prop := ∀ x y H F as m ex ey e m' Q, HeapOk K H F as m → RepE K F as x ex → RepE K F as y ey → g ex ey m = some (e, m') →
  (∀ v H' F' as', Ext F F' as as' → HeapOk K H' F' as' m' → RepE K F' as' v e → Q v H') → r x y H Q
theorem bind2 {α β : Type} {x : Option α} {f : α → Option β} {b : β} (h : x.bind f = some b) : ∃ a, x = some a ∧ f a = some b := Option.bind_eq_some_iff.mp h
section
variable {X : Cx} {pos : Pos} {a b : Expr} {fa fb : Ex} {r : R2} {g : G2}
theorem op_read (hg : R2Ok X.K r g) : ∀ σ H Q, tE X.K (eBin g fa fb) σ H Q → tOp r (tE X.K fa) (tE X.K fb) σ H Q := by
  intro σ H Q h
  obtain ⟨ρ, m, F, as, e, m', env, hp, hf, q⟩ := h
  obtain ⟨⟨ex, m1⟩, h1, hf⟩ := bind2 hf
  obtain ⟨⟨ey, m2⟩, h2, hf⟩ := bind2 hf
  refine ⟨ρ, m, F, as, ex, m1, env, hp, h1, fun v1 H1 F1 as1 x1 hp1 r1 => ?_⟩
  refine ⟨ρ, m1, F1, as1, ey, m2, env.ext x1, hp1, h2, fun v2 H2 F2 as2 x2 hp2 r2 => ?_⟩
  exact hg v1 v2 H2 F2 as2 m2 ex ey e m' Q hp2 (r1.ext x2) r2 hf fun v H' F' as' x3 hp3 r3 => q v H' F' as' (x1.trans (x2.trans x3)) hp3 r3
theorem r_op {op : Operator} (ho : OpR X (binaryOp op) r) (hg : R2Ok X.K r g) (ha : PE X a (tE X.K fa)) (hb : PE X b (tE X.K fb)) : PE X (.BinOp a op b pos) (tE X.K (eBin g fa fb)) :=
  PE_imp (pe_op ho ha hb) (op_read hg)
theorem r_cmp {op : CmpOp} (ho : OpR X (compareOp op) r) (hg : R2Ok X.K r g) (ha : PE X a (tE X.K fa)) (hb : PE X b (tE X.K fb)) (hm : behindInMarks op b = false) : PE X (.Compare a [op] [b] pos) (tE X.K (eBin g fa fb)) :=
  PE_imp (pe_cmpR ho ha hb hm) (op_read hg)
theorem r_ix (hr : IxR X r) (hg : R2Ok X.K r g) (ha : PE X a (tE X.K fa)) (hb : PE X b (tE X.K fb)) (hs : PlainIx b) : PE X (.Subscript a b pos) (tE X.K (eBin g fa fb)) :=
  PE_imp (pe_ix hr ha hb hs) (op_read hg)
/-- a test by an expression that gives a bool -/
def tOf (f : Ex) : Tx := fun ρ m => match f ρ m with
  | some (.d (.bl b), m') => some (b, m')
  | _ => none
theorem test_read {f : Ex} {t : TE} (i : ∀ σ H Q, tE X.K f σ H Q → t σ H Q) : ∀ σ H Q, tT X.K (tOf f) σ H Q → tTest t σ H Q := by
  intro σ H Q h
  obtain ⟨ρ, m, F, as, c, m', env, hp, hf, q⟩ := h
  unfold tOf at hf
  split at hf
  · rename_i b m2 e
    cases hf
    refine i _ _ _ ⟨ρ, m, F, as, _, _, env, hp, e, fun v H' F' as' x hp' r => ?_⟩
    cases r with
    | d r => cases r; exact ⟨c, rfl, q H' F' as' x hp'⟩
  · cases hf
theorem r_cmpT {op : CmpOp} (ho : OpR X (compareOp op) r) (hg : R2Ok X.K r g) (ha : PE X a (tE X.K fa)) (hb : PE X b (tE X.K fb)) (hm : behindInMarks op b = false) : PT X (.Compare a [op] [b] pos) (tT X.K (tOf (eBin g fa fb))) :=
  PT_imp (pt_cmpR ho ha hb hm) (test_read (op_read hg))
theorem r_val {e : Expr} {f : Ex} (h : PE X e (tE X.K f)) (he : ∀ whole, isTrue e X.env whole = (do let v ← whole; standAt e.pos; holding [v] (truthy v)) := by intro _; rfl) : PT X e (tT X.K (tOf f)) :=
  PT_imp (pt_val h he) (test_read fun _ _ _ h => h)
end

/-! ### operators on data -/
def D2Ok (K : PySem.W.Frag) (r : R2) (op : D → D → Option D) : Prop := ∀ x y H F dx dy d Q, FSub F H → RepL K H F x dx → RepL K H F y dy → op dx dy = some d →
  (∀ v H' F', Grow H F H' F' → Rep K F' v d → Q v H') → r x y H Q
def g2 (op : D → D → Option D) : G2 := fun x y m => (look m x).bind fun dx => (look m y).bind fun dy => (op dx dy).bind fun d => some (.d d, m)
theorem D2Ok.r2 {K : PySem.W.Frag} {r : R2} {op : D → D → Option D} (h : D2Ok K r op) : R2Ok K r (g2 op) := by
  intro x y H F as m ex ey e m' Q hp rx ry hf q
  obtain ⟨dx, h1, hf⟩ := bind2 hf
  obtain ⟨dy, h2, hf⟩ := bind2 hf
  obtain ⟨d, h3, hf⟩ := bind2 hf
  cases hf
  exact h x y H F dx dy d Q hp.sub (look_rep hp rx h1) (look_rep hp ry h2) h3 fun v H' F' g r => q v H' F' as (hp.ext g) (hp.grow g) (.d r)
def big : Nat := 1000000
/-- truth, not to be computed -/
noncomputable def okP (p : Prop) : Bool := @decide p (Classical.propDecidable p)
theorem okP_true {p : Prop} (h : p) : okP p = true := by unfold okP; exact @decide_eq_true p (Classical.propDecidable p) h
theorem of_okP {p : Prop} (h : okP p = true) : p := by unfold okP at h; exact @of_decide_eq_true p (Classical.propDecidable p) h
theorem big_le {n : Nat} (h : n ≤ big) : n ≤ sizeLine := Nat.le_trans h (by rw [sizeLine_eq]; decide)
theorem big_lt {n : Nat} (h : n < big) : n < sizeLine := Nat.lt_of_lt_of_le h (by rw [sizeLine_eq]; decide)

def opAdd : D → D → Option D
  | .int i, .int j => some (.int (i + j))
  | .str x, .str y => if x.length + y.length ≤ big then some (.str (x ++ y)) else none
  | .tup xs, .tup ys => if xs.length + ys.length ≤ big then some (.tup (xs ++ ys)) else none
  | .lst xs, .lst ys => if xs.length + ys.length ≤ big then some (.lst (xs ++ ys)) else none
  | _, _ => none
def rAddA (K : PySem.W.Frag) : R2 := fun x y H Q => (rI0 fun i j => .int (i + j)) x y H Q ∨ (fun x y H Q => ∃ i j, x = .str i ∧ y = .str j ∧ i.length + j.length ≤ sizeLine ∧ Q (.str (i ++ j)) H : R2) x y H Q ∨ rCatA K x y H Q ∨ rCat x y H Q
section
variable {X : Cx}
theorem op_addA : OpR X (binaryOp .Add) (rAddA X.K) := OpR.or op_add (OpR.or op_add_str (OpR.or op_catA op_cat))
theorem d_add {K : PySem.W.Frag} : D2Ok K (rAddA K) opAdd := by
  intro x y H F dx dy d Q s rx ry hd q
  unfold opAdd at hd
  split at hd
  · cases hd
    exact .inl ⟨_, _, rx.int, ry.int, q _ H F (.refl s) .int⟩
  · split at hd
    · rename_i z
      cases hd
      exact .inr (.inl ⟨_, _, rx.str, ry.str, big_le z, q _ H F (.refl s) .str⟩)
    · cases hd
  · split at hd
    · rename_i z
      cases hd
      obtain ⟨a, vs, rfl, f1, h1, z1, r1⟩ := rx.tup s
      obtain ⟨b, ws, rfl, f2, h2, z2, r2⟩ := ry.tup s
      have zz : vs.length + ws.length ≤ sizeLine := by rw [r1.length, r2.length]; exact big_le z
      refine .inr (.inr (.inl ⟨a, b, vs, ws, rfl, rfl, .of h1, .of h2, zz, fun e => ?_, fun _ e => ?_, fun _ _ p hp => ?_⟩))
      · subst e
        refine q _ H F (.refl s) (.tup f2 z2 ?_)
        cases r1
        exact r2
      · subst e
        refine q _ H F (.refl s) (.tup f1 z1 ?_)
        cases r2
        rw [List.append_nil]
        exact r1
      · have g := Grow.laid (o := .tup (vs ++ ws)) s hp
        exact q _ _ _ g (.tup upd_same (by rw [List.length_append]; exact zz) ((r1.append r2).mono (g.same s)))
    · cases hd
  · split at hd
    · rename_i z
      cases hd
      obtain ⟨a, vs, rfl, h1, z1, r1⟩ := rx.list s
      obtain ⟨b, ws, rfl, h2, z2, r2⟩ := ry.list s
      have zz : vs.length + ws.length ≤ sizeLine := by rw [r1.length, r2.length]; exact big_le z
      refine .inr (.inr (.inr ⟨a, b, vs, ws, rfl, rfl, h1, h2, zz, fun p hp => ?_⟩))
      have g := Grow.laid (o := .lst (vs ++ ws)) s hp
      exact q _ _ _ g (.lst upd_same (by rw [List.length_append]; exact zz) ((r1.append r2).mono (g.same s)))
    · cases hd
  · cases hd
end
/-- ints alone -/
def opI (f : Int → Int → Option D) : D → D → Option D
  | .int i, .int j => f i j
  | _, _ => none
theorem d_int {K : PySem.W.Frag} {C : Int → Int → Prop} {g : Int → Int → V} {f : Int → Int → Option D} (h : ∀ i j d, f i j = some d → C i j ∧ ∀ F : Hp, Rep K F (g i j) d) : D2Ok K (rI C g) (opI f) := by
  intro x y H F dx dy d Q s rx ry hd q
  unfold opI at hd
  split at hd
  · obtain ⟨c, r⟩ := h _ _ _ hd
    exact ⟨_, _, rx.int, ry.int, c, q _ H F (.refl s) (r F)⟩
  · cases hd
theorem d_int0 {K : PySem.W.Frag} {g : Int → Int → V} {f : Int → Int → Option D} (h : ∀ i j d, f i j = some d → ∀ F : Hp, Rep K F (g i j) d) : D2Ok K (rI0 g) (opI f) := by
  intro x y H F dx dy d Q s rx ry hd q
  unfold opI at hd
  split at hd
  · exact ⟨_, _, rx.int, ry.int, q _ H F (.refl s) (h _ _ _ hd F)⟩
  · cases hd
abbrev opSub := opI fun i j => some (.int (i - j))
noncomputable abbrev opMul := opI fun i j => if okP ((-(2 ^ 64) < i ∧ i < 2 ^ 64) ∨ (-(2 ^ 64) < j ∧ j < 2 ^ 64)) = true then some (.int (i * j)) else none
abbrev opDiv := opI fun i j => if 0 < j ∧ j < 1073741824 then some (.int (i / j)) else none
abbrev opMod := opI fun i j => if 0 < j then some (.int (i % j)) else none
abbrev opLt := opI fun i j => some (.bl (decide (i < j)))
abbrev opLe := opI fun i j => some (.bl (decide (i ≤ j)))
abbrev opGt := opI fun i j => some (.bl (decide (j < i)))
abbrev opGe := opI fun i j => some (.bl (decide (j ≤ i)))
section
variable {K : PySem.W.Frag}
theorem d_sub : D2Ok K (rI0 fun i j => .int (i - j)) opSub := d_int0 fun i j d h F => by cases h; exact .int
theorem d_lt : D2Ok K (rI0 fun i j => .bl (decide (i < j))) opLt := d_int0 fun i j d h F => by cases h; exact .bl
theorem d_le : D2Ok K (rI0 fun i j => .bl (decide (i ≤ j))) opLe := d_int0 fun i j d h F => by cases h; exact .bl
theorem d_gt : D2Ok K (rI0 fun i j => .bl (decide (j < i))) opGt := d_int0 fun i j d h F => by cases h; exact .bl
theorem d_ge : D2Ok K (rI0 fun i j => .bl (decide (j ≤ i))) opGe := d_int0 fun i j d h F => by cases h; exact .bl
theorem d_mul : D2Ok K (rI CMul fun i j => .int (i * j)) opMul := d_int fun i j d h => by
  split at h
  · rename_i c
    have c := of_okP c; cases h; exact ⟨c, fun _ => .int⟩
  · cases h
theorem d_div : D2Ok K (rI CDiv fun i j => .int (i / j)) opDiv := d_int fun i j d h => by
  split at h
  · rename_i c; cases h; exact ⟨c, fun _ => .int⟩
  · cases h
theorem d_mod : D2Ok K (rI (fun _ j => 0 < j) fun i j => .int (i % j)) opMod := d_int fun i j d h => by
  split at h
  · rename_i c; cases h; exact ⟨c, fun _ => .int⟩
  · cases h
end
/-- == of scalars -/
def eqS : D → D → Option Bool
  | .int i, .int j => some (decide (i = j))
  | .bl i, .bl j => some (decide (i = j))
  | .str i, .str j => some (decide (i = j))
  | .non, .non => some true
  | .non, .int _ => some false
  | .int _, .non => some false
  | _, _ => none
def opEq (x y : D) : Option D := (eqS x y).map .bl
def opNe (x y : D) : Option D := (eqS x y).map fun b => .bl !b
theorem eqS_ok {K : PySem.W.Frag} {H F : Hp} {x y : V} {dx dy : D} {b : Bool} (rx : RepL K H F x dx) (ry : RepL K H F y dy) (h : eqS dx dy = some b) : scal x y = true ∧ decide (x = y) = b := by
  unfold eqS at h
  split at h <;> cases h
  · rw [rx.int, ry.int]; exact ⟨rfl, by simp⟩
  · rw [rx.bl, ry.bl]; exact ⟨rfl, by simp⟩
  · rw [rx.str, ry.str]; exact ⟨rfl, by simp⟩
  · rw [rx.non, ry.non]; exact ⟨rfl, by simp⟩
  · rw [rx.non, ry.int]; exact ⟨rfl, by simp⟩
  · rw [rx.int, ry.non]; exact ⟨rfl, by simp⟩
theorem d_eq {K : PySem.W.Frag} : D2Ok K rEq opEq := by
  intro x y H F dx dy d Q s rx ry hd q
  obtain ⟨b, h1, rfl⟩ := Option.map_eq_some_iff.mp hd
  obtain ⟨h2, h3⟩ := eqS_ok rx ry h1
  exact ⟨h2, by rw [h3]; exact q _ H F (.refl s) .bl⟩
theorem d_ne {K : PySem.W.Frag} : D2Ok K rNe opNe := by
  intro x y H F dx dy d Q s rx ry hd q
  obtain ⟨b, h1, rfl⟩ := Option.map_eq_some_iff.mp hd
  obtain ⟨h2, h3⟩ := eqS_ok rx ry h1
  exact ⟨h2, by rw [h3]; exact q _ H F (.refl s) .bl⟩

/-! ### places -/
def opIx : D → D → Option D
  | .lst xs, .int i => atI xs i
  | .tup xs, .int i => atI xs i
  | .scr ns, .int i => (atI ns i).map .int
  | _, _ => none
theorem atI_rep {K : PySem.W.Frag} {F : Hp} {vs : List V} {ds : List D} {i : Int} {d : D} (r : Reps K F vs ds) (h : atI ds i = some d) : ∃ v, atI vs i = some v ∧ Rep K F v d := by
  unfold atI at h ⊢
  rw [← r.length] at h
  obtain ⟨j, h1, h2⟩ := bind2 h
  obtain ⟨v, e1, e2⟩ := r.get h2
  exact ⟨v, by rw [h1]; exact e1, e2⟩
theorem atI_map {α β : Type} (f : α → β) (xs : List α) (i : Int) : atI (xs.map f) i = (atI xs i).map f := by
  unfold atI
  rw [List.length_map]
  cases ixN xs.length i with
  | none => rfl
  | some j => simp
theorem d_ix {K : PySem.W.Frag} : D2Ok K (rIx K) opIx := by
  intro x y H F dx dy d Q s rx ry hd q
  unfold opIx at hd
  split at hd
  · obtain ⟨a, vs, rfl, h1, z1, r1⟩ := rx.list s
    obtain ⟨v, e1, e2⟩ := atI_rep r1 hd
    exact .inl ⟨a, vs, _, v, rfl, ry.int, .of h1, e1, q _ H F (.refl s) e2⟩
  · obtain ⟨a, vs, rfl, f1, h1, z1, r1⟩ := rx.tup s
    obtain ⟨v, e1, e2⟩ := atI_rep r1 hd
    exact .inr (.inl ⟨a, vs, _, v, rfl, ry.int, .of h1, e1, q _ H F (.refl s) e2⟩)
  · obtain ⟨n, e1, rfl⟩ := Option.map_eq_some_iff.mp hd
    obtain ⟨a, rfl, h1⟩ := rx.scr s
    exact .inl ⟨a, _, _, .int n, rfl, ry.int, h1, by rw [atI_map, e1]; rfl, q _ H F (.refl s) .int⟩
  · cases hd
end PL
/-! PL3: tests, arguments, displays, statements, functions. -/
namespace PL
open PySem PySem.Spec L2
set_option autoImplicit false

/-! ### tests -/
def tAndM (f g : Tx) : Tx := fun ρ m => (f ρ m).bind fun p => if p.1 = true then g ρ p.2 else some (false, p.2)
def tOrM (f g : Tx) : Tx := fun ρ m => (f ρ m).bind fun p => if p.1 = true then some (true, p.2) else g ρ p.2
def tNotM (f : Tx) : Tx := fun ρ m => (f ρ m).bind fun p => some (!p.1, p.2)
def eIf (t : Tx) (f g : Ex) : Ex := fun ρ m => (t ρ m).bind fun p => if p.1 = true then f ρ p.2 else g ρ p.2
/-- and, or, not as values, of bools -/
def eAnd (f g : Ex) : Ex := fun ρ m => (tOf f ρ m).bind fun p => if p.1 = true then g ρ p.2 else some (.d (.bl false), p.2)
def eOr (f g : Ex) : Ex := fun ρ m => (tOf f ρ m).bind fun p => if p.1 = true then some (.d (.bl true), p.2) else g ρ p.2
def eNot (f : Ex) : Ex := fun ρ m => (tOf f ρ m).bind fun p => some (.d (.bl !p.1), p.2)
theorem tOf_some {f : Ex} {ρ : Rho} {m m' : Store} {b : Bool} (h : tOf f ρ m = some (b, m')) : f ρ m = some (.d (.bl b), m') := by
  unfold tOf at h
  split at h
  · rename_i e; cases h; exact e
  · cases h
section
variable {X : Cx} {pos : Pos} {a b c : Expr} {rest : List Expr} {f g : Tx} {fa fb : Ex}
theorem tstep {K : PySem.W.Frag} {σ : L2.St} {H : Hp} {ρ : Rho} {m m' : Store} {F : Hp} {as : Cs} {b : Bool} {f : Tx} {Q : Bool → Hp → Prop} (env : EnvOk K F as σ ρ) (hp : HeapOk K H F as m) (h : f ρ m = some (b, m'))
    (q : ∀ H' F' as', Ext F F' as as' → HeapOk K H' F' as' m' → EnvOk K F' as' σ ρ → Q b H') : tT K f σ H Q := ⟨ρ, m, F, as, b, m', env, hp, h, fun H' F' as' x hp' => q H' F' as' x hp' (env.ext x)⟩
theorem estep {K : PySem.W.Frag} {σ : L2.St} {H : Hp} {ρ : Rho} {m m' : Store} {F : Hp} {as : Cs} {e : E} {f : Ex} {Q : VK} (env : EnvOk K F as σ ρ) (hp : HeapOk K H F as m) (h : f ρ m = some (e, m'))
    (q : ∀ v H' F' as', Ext F F' as as' → HeapOk K H' F' as' m' → EnvOk K F' as' σ ρ → RepE K F' as' v e → Q v H') : tE K f σ H Q := ⟨ρ, m, F, as, e, m', env, hp, h, fun v H' F' as' x hp' r => q v H' F' as' x hp' (env.ext x) r⟩
theorem r_and1 (ha : PT X a (tT X.K f)) : PW X (.BoolOp .And [a] pos) (tT X.K f) := pw_and1 ha
theorem r_or1 (ha : PT X a (tT X.K f)) : PW X (.BoolOp .Or [a] pos) (tT X.K f) := pw_or1 ha
theorem r_and (ha : PT X a (tT X.K f)) (hb : PW X (.BoolOp .And (b :: rest) pos) (tT X.K g)) : PW X (.BoolOp .And (a :: b :: rest) pos) (tT X.K (tAndM f g)) := by
  refine PW_imp (pw_and ha hb) fun σ H Q h => ?_
  obtain ⟨ρ, m, F, as, r, m', env, hp, hf, q⟩ := h
  obtain ⟨⟨k, m1⟩, h1, hf⟩ := bind2 hf
  refine tstep env hp h1 fun H1 F1 as1 x1 hp1 env1 => ?_
  cases k with
  | true => exact tstep env1 hp1 hf fun H2 F2 as2 x2 hp2 _ => q H2 F2 as2 (x1.trans x2) hp2
  | false => cases hf; exact q H1 F1 as1 x1 hp1
theorem r_or (ha : PT X a (tT X.K f)) (hb : PW X (.BoolOp .Or (b :: rest) pos) (tT X.K g)) : PW X (.BoolOp .Or (a :: b :: rest) pos) (tT X.K (tOrM f g)) := by
  refine PW_imp (pw_or ha hb) fun σ H Q h => ?_
  obtain ⟨ρ, m, F, as, r, m', env, hp, hf, q⟩ := h
  obtain ⟨⟨k, m1⟩, h1, hf⟩ := bind2 hf
  refine tstep env hp h1 fun H1 F1 as1 x1 hp1 env1 => ?_
  cases k with
  | false => exact tstep env1 hp1 hf fun H2 F2 as2 x2 hp2 _ => q H2 F2 as2 (x1.trans x2) hp2
  | true => cases hf; exact q H1 F1 as1 x1 hp1
theorem r_not (ha : PT X a (tT X.K f)) : PT X (.UnaryOp .Not a pos) (tT X.K (tNotM f)) := by
  refine PT_imp (pt_not ha) fun σ H Q h => ?_
  obtain ⟨ρ, m, F, as, r, m', env, hp, hf, q⟩ := h
  obtain ⟨⟨k, m1⟩, h1, hf⟩ := bind2 hf
  cases hf
  exact tstep env hp h1 fun H1 F1 as1 x1 hp1 _ => q H1 F1 as1 x1 hp1
theorem r_if (hc : PT X c (tT X.K f)) (ha : PE X a (tE X.K fa)) (hb : PE X b (tE X.K fb)) : PE X (.IfExp c a b pos) (tE X.K (eIf f fa fb)) := by
  refine PE_imp (pe_ifExp hc ha hb) fun σ H Q h => ?_
  obtain ⟨ρ, m, F, as, r, m', env, hp, hf, q⟩ := h
  obtain ⟨⟨k, m1⟩, h1, hf⟩ := bind2 hf
  refine tstep env hp h1 fun H1 F1 as1 x1 hp1 env1 => ?_
  cases k with
  | true => exact estep env1 hp1 hf fun v H2 F2 as2 x2 hp2 _ r => q v H2 F2 as2 (x1.trans x2) hp2 r
  | false => exact estep env1 hp1 hf fun v H2 F2 as2 x2 hp2 _ r => q v H2 F2 as2 (x1.trans x2) hp2 r
theorem RepE_bl {K : PySem.W.Frag} {F : Hp} {as : Cs} {v : V} {b : Bool} (r : RepE K F as v (.d (.bl b))) : v = .bl b := by cases r with | d r => cases r; rfl
theorem r_eone {op} (h : PE X a (tE X.K fa)) : PE X (.BoolOp op [a] pos) (tE X.K fa) := pe_one h
theorem r_eand (ha : PE X a (tE X.K fa)) (hb : PE X (.BoolOp .And (b :: rest) pos) (tE X.K fb)) : PE X (.BoolOp .And (a :: b :: rest) pos) (tE X.K (eAnd fa fb)) := by
  refine PE_imp (pe_and ha hb) fun σ H Q h => ?_
  obtain ⟨ρ, m, F, as, r, m', env, hp, hf, q⟩ := h
  obtain ⟨⟨k, m1⟩, h1, hf⟩ := bind2 hf
  refine estep env hp (tOf_some h1) fun v H1 F1 as1 x1 hp1 env1 r1 => ⟨k, RepE_bl r1, ?_⟩
  cases k with
  | true => exact estep env1 hp1 hf fun v H2 F2 as2 x2 hp2 _ r => q v H2 F2 as2 (x1.trans x2) hp2 r
  | false => cases hf; exact q _ H1 F1 as1 x1 hp1 (.d .bl)
theorem r_eor (ha : PE X a (tE X.K fa)) (hb : PE X (.BoolOp .Or (b :: rest) pos) (tE X.K fb)) : PE X (.BoolOp .Or (a :: b :: rest) pos) (tE X.K (eOr fa fb)) := by
  refine PE_imp (pe_or ha hb) fun σ H Q h => ?_
  obtain ⟨ρ, m, F, as, r, m', env, hp, hf, q⟩ := h
  obtain ⟨⟨k, m1⟩, h1, hf⟩ := bind2 hf
  refine estep env hp (tOf_some h1) fun v H1 F1 as1 x1 hp1 env1 r1 => ⟨k, RepE_bl r1, ?_⟩
  cases k with
  | false => exact estep env1 hp1 hf fun v H2 F2 as2 x2 hp2 _ r => q v H2 F2 as2 (x1.trans x2) hp2 r
  | true => cases hf; exact q _ H1 F1 as1 x1 hp1 (.d .bl)
theorem r_enot (ha : PE X a (tE X.K fa)) : PE X (.UnaryOp .Not a pos) (tE X.K (eNot fa)) := by
  refine PE_imp (pe_not ha) fun σ H Q h => ?_
  obtain ⟨ρ, m, F, as, r, m', env, hp, hf, q⟩ := h
  obtain ⟨⟨k, m1⟩, h1, hf⟩ := bind2 hf
  cases hf
  exact estep env hp (tOf_some h1) fun v H1 F1 as1 x1 hp1 env1 r1 => ⟨k, RepE_bl r1, q _ H1 F1 as1 x1 hp1 (.d .bl)⟩
end

/-! ### freezing: a cell that is handed on into data is written no more -/
def frzE (m : Store) : E → Option (D × Store)
  | .d x => some (x, m)
  | .own c => (look m (.own c)).bind fun d => some (d, m.set c (.frz d))
  | .deal _ _ _ => none
section
variable {K : PySem.W.Frag} {F F' H H' : Hp} {as as' : Cs} {m m' : Store} {v : V} {e : E}
theorem HeapOk.upF {a : Addr} {c : Nat} {o : HO} {d : D} (x : HeapOk K H F as m) (ha : as.c[c]? = some a) (hF : F a = none) (hH : H a = some o) (r : Rep K (upd F a o) (.ref a) d) : Same F (upd F a o) ∧ HeapOk K H (upd F a o) as (m.set c (.frz d)) := by
  have sm : Same F (upd F a o) := fun b u q => by
    rw [upd_ne (fun z => by rw [z, hF] at q; cases q)]
    exact q
  refine ⟨sm, ⟨fun b u q => ?_, by rw [List.length_set]; exact x.len, x.nd, x.there, fun c' b u q1 q2 => ?_, fun p hp => ?_, x.pnd⟩⟩
  case refine_3 =>
    obtain ⟨p1, p2, p3⟩ := x.prot p hp
    exact ⟨p1, by rw [upd_ne (fun z => p3 (by rw [z]; exact List.mem_of_getElem? ha))]; exact p2, p3⟩
  · by_cases hb : b = a
    · subst hb
      rw [upd_same] at q
      cases q
      exact .inl hH
    · rw [upd_ne hb] at q
      exact x.sub b u q
  · by_cases hc : c = c'
    · subst hc
      rw [ha] at q1
      cases q1
      have hl : c < m.length := by rw [← x.len]; exact (List.getElem?_eq_some_iff.mp ha).1
      rw [List.getElem?_set_self hl] at q2
      cases q2
      exact r
    · rw [List.getElem?_set_ne hc] at q2
      have nb : b ≠ a := fun z => by
        rw [z] at q1
        exact hc (nd_ix x.nd ha q1)
      have y := x.cell c' b u q1 q2
      cases u with
      | lst ds => obtain ⟨y1, z, vs, y2, y3⟩ := y; exact ⟨by rw [upd_ne nb]; exact y1, z, vs, y2, y3.mono sm⟩
      | dic ds => obtain ⟨y1, vs, y2, y3⟩ := y; exact ⟨by rw [upd_ne nb]; exact y1, vs, y2, y3.mono sm⟩
      | dicT ds => obtain ⟨y1, vs, y2, y3⟩ := y; exact ⟨by rw [upd_ne nb]; exact y1, vs, y2, y3.mono sm⟩
      | frz d' => exact Rep.mono sm y
theorem Same.updF {a : Addr} {o : HO} (h : F a = none) : Same F (upd F a o) := fun b u q => by
  rw [upd_ne (fun z => by rw [z, h] at q; cases q)]
  exact q
theorem frzE_ok {d : D} (x : HeapOk K H F as m) (r : RepE K F as v e) (h : frzE m e = some (d, m')) : ∃ F', Ext F F' as as ∧ HeapOk K H F' as m' ∧ Rep K F' v d := by
  cases r with
  | d r => cases h; exact ⟨F, .refl, x, r⟩
  | @own a c r =>
    obtain ⟨d', h1, h2⟩ := bind2 h
    cases h2
    unfold look at h1
    cases q : m[c]? with
    | none => simp only [q] at h1; cases h1
    | some o =>
      have y := x.cell c a o r q
      simp only [q] at h1
      cases o with
      | lst ds =>
        cases h1
        obtain ⟨y1, z, vs, y2, y3⟩ := y
        have rr : Rep K (upd F a (.lst vs)) (.ref a) (.lst ds) := .lst upd_same (by rw [y3.length]; exact z) (y3.mono (Same.updF y1))
        obtain ⟨s, hp⟩ := x.upF r y1 y2 rr
        exact ⟨_, ⟨s, List.prefix_refl _, rfl⟩, hp, rr⟩
      | dic ds =>
        cases h1
        obtain ⟨y1, vs, y2, y3⟩ := y
        have rr : Rep K (upd F a (.dK vs)) (.ref a) (.dic ds) := .dic upd_same (y3.mono (Same.updF y1))
        obtain ⟨s, hp⟩ := x.upF r y1 y2 rr
        exact ⟨_, ⟨s, List.prefix_refl _, rfl⟩, hp, rr⟩
      | dicT ds =>
        cases h1
        obtain ⟨y1, vs, y2, y3⟩ := y
        have rr : Rep K (upd F a (.dT vs)) (.ref a) (.dicT ds) := .dicT upd_same (y3.mono (Same.updF y1))
        obtain ⟨s, hp⟩ := x.upF r y1 y2 rr
        exact ⟨_, ⟨s, List.prefix_refl _, rfl⟩, hp, rr⟩
      | frz d =>
        cases h1
        refine ⟨F, .refl, ⟨x.sub, by rw [List.length_set]; exact x.len, x.nd, x.there, fun c' b u q1 q2 => ?_, x.prot, x.pnd⟩, y⟩
        by_cases hc : c = c'
        · subst hc
          rw [r] at q1
          cases q1
          have hl : c < m.length := by rw [← x.len]; exact (List.getElem?_eq_some_iff.mp r).1
          rw [List.getElem?_set_self hl] at q2
          cases q2
          exact y
        · rw [List.getElem?_set_ne hc] at q2
          exact x.cell c' b u q1 q2
  | deal => cases h
end

/-! ### arguments -/
def aNil : Ax := fun _ m => some ([], m)
def aCons (f : Ex) (g : Ax) : Ax := fun ρ m => (f ρ m).bind fun p => (g ρ p.2).bind fun q => some (p.1 :: q.1, q.2)
/-- the values frozen, one after another -/
def frzAll : List E → Store → Option (List D × Store)
  | [], m => some ([], m)
  | e :: es, m => (frzE m e).bind fun p => (frzAll es p.2).bind fun q => some (p.1 :: q.1, q.2)
section
variable {X : Cx} {e : Expr} {es : List Expr} {f : Ex} {g : Ax} {pos : Pos}
theorem r_anil : PA X [] (tA X.K aNil) := PA_imp pa_nil fun σ H Q h => by
  obtain ⟨ρ, m, F, as, es, m', env, hp, hf, q⟩ := h
  cases hf
  exact q _ H F as .refl hp .nil
theorem r_acons (ha : PE X e (tE X.K f)) (hr : PA X es (tA X.K g)) (hs : starEach (e :: es) X.env = (false, eval e X.env) :: starEach es X.env := by rfl) : PA X (e :: es) (tA X.K (aCons f g)) :=
  PA_imp (pa_cons ha hr hs) fun σ H Q h => by
    obtain ⟨ρ, m, F, as, es, m', env, hp, hf, q⟩ := h
    obtain ⟨⟨e1, m1⟩, h1, hf⟩ := bind2 hf
    obtain ⟨⟨es1, m2⟩, h2, hf⟩ := bind2 hf
    cases hf
    refine estep env hp h1 fun v H1 F1 as1 x1 hp1 env1 r1 => ⟨ρ, m1, F1, as1, es1, _, env1, hp1, h2, fun vs H2 F2 as2 x2 hp2 r2 => ?_⟩
    exact q _ H2 F2 as2 (x1.trans x2) hp2 (.cons (r1.ext x2) r2)
theorem frzAll_ok {K : PySem.W.Frag} {H : Hp} {as : Cs} : ∀ {es : List E} {vs : List V} {F : Hp} {m m' : Store} {ds : List D}, HeapOk K H F as m → RepEs K F as vs es → frzAll es m = some (ds, m') →
    ∃ F', Ext F F' as as ∧ HeapOk K H F' as m' ∧ Reps K F' vs ds
  | [], _, F, m, m', ds, x, .nil, h => by cases h; exact ⟨F, .refl, x, .nil⟩
  | e :: es, _, F, m, m', ds, x, .cons r rs, h => by
    obtain ⟨⟨d, m1⟩, h1, h⟩ := bind2 h
    obtain ⟨⟨ds1, m2⟩, h2, h⟩ := bind2 h
    cases h
    obtain ⟨F1, x1, hp1, r1⟩ := frzE_ok x r h1
    obtain ⟨F2, x2, hp2, r2⟩ := frzAll_ok hp1 (rs.ext x1) h2
    exact ⟨F2, x1.trans x2, hp2, .cons (r1.mono x2.1) r2⟩
/-- (a, b, ..) -/
def eTup (g : Ax) : Ex := fun ρ m => (g ρ m).bind fun p => (frzAll p.1 p.2).bind fun q => if q.1.length ≤ big then some (.d (.tup q.1), q.2) else none
/-- [a, b, ..] that is not written any more -/
def eLst (g : Ax) : Ex := fun ρ m => (g ρ m).bind fun p => (frzAll p.1 p.2).bind fun q => if q.1.length ≤ big then some (.d (.lst q.1), q.2) else none
/-- [a, b, ..] that is written later -/
def eLstO (g : Ax) : Ex := fun ρ m => (g ρ m).bind fun p => (frzAll p.1 p.2).bind fun q => if q.1.length ≤ big then some (.own q.2.length, q.2 ++ [.lst q.1]) else none
theorem r_tup {x1} (h : PA X es (tA X.K g)) : PE X (.Tuple es x1 pos) (tE X.K (eTup g)) := PE_imp (pe_tup h) fun σ H Q h => by
  obtain ⟨ρ, m, F, as, e, m', env, hp, hf, q⟩ := h
  obtain ⟨⟨es1, m1⟩, h1, hf⟩ := bind2 hf
  obtain ⟨⟨ds, m2⟩, h2, hf⟩ := bind2 hf
  refine ⟨ρ, m, F, as, es1, m1, env, hp, h1, fun vs H1 F1 as1 x1 hp1 r1 => ?_⟩
  obtain ⟨F2, x2, hp2, r2⟩ := frzAll_ok hp1 r1 h2
  split at hf
  · rename_i z
    cases hf
    have z' : vs.length ≤ sizeLine := by rw [r2.length]; exact big_le z
    refine ⟨z', fun p hn => ?_⟩
    have gr := Grow.laid (o := .tup vs) hp2.sub hn
    exact q _ _ _ as1 (x1.trans (x2.trans (hp2.ext gr))) (hp2.grow gr) (.d (.tup upd_same z' (r2.mono (gr.same hp2.sub))))
  · cases hf
theorem r_lst (h : PA X es (tA X.K g)) : PE X (.List es pos) (tE X.K (eLst g)) := PE_imp (pe_lst h) fun σ H Q h => by
  obtain ⟨ρ, m, F, as, e, m', env, hp, hf, q⟩ := h
  obtain ⟨⟨es1, m1⟩, h1, hf⟩ := bind2 hf
  obtain ⟨⟨ds, m2⟩, h2, hf⟩ := bind2 hf
  refine ⟨ρ, m, F, as, es1, m1, env, hp, h1, fun vs H1 F1 as1 x1 hp1 r1 => ?_⟩
  obtain ⟨F2, x2, hp2, r2⟩ := frzAll_ok hp1 r1 h2
  split at hf
  · rename_i z
    cases hf
    have z' : vs.length ≤ sizeLine := by rw [r2.length]; exact big_le z
    refine ⟨z', fun p hn => ?_⟩
    have gr := Grow.laid (o := .lst vs) hp2.sub hn
    exact q _ _ _ as1 (x1.trans (x2.trans (hp2.ext gr))) (hp2.grow gr) (.d (.lst upd_same z' (r2.mono (gr.same hp2.sub))))
  · cases hf
end
/-- a new cell -/
theorem HeapOk.cellNew {K : PySem.W.Frag} {H F : Hp} {as : Cs} {m : Store} {p : Addr} {ho : HO} {o : O} (x : HeapOk K H F as m) (hn : H p = none) (y : CellOk K (upd H p ho) F p o) : HeapOk K (upd H p ho) F ⟨as.c ++ [p], as.g⟩ (m ++ [o]) := by
  have ne : ∀ a, H a ≠ none → a ≠ p := fun a q z => q (by rw [z]; exact hn)
  have nF : F p = none := x.sub.free hn
  refine ⟨fun a u q => ?_, by show (as.c ++ [p]).length = _; rw [List.length_append, List.length_append, x.len]; rfl, ?_, fun a q => ?_, fun c a u q1 q2 => ?_, fun r hr => ?_, x.pnd⟩
  · rw [upd_ne (ne a (x.sub.there q))]; exact x.sub a u q
  · show (as.c ++ [p]).Nodup
    rw [List.nodup_append]
    refine ⟨x.nd, by simp, fun a ha b hb => ?_⟩
    have e : b = p := by simpa using hb
    rw [e]
    exact ne a (x.there a ha)
  · rcases List.mem_append.mp q with q | q
    · rw [upd_ne (ne a (x.there a q))]; exact x.there a q
    · have e : a = p := by simpa using q
      rw [e, upd_same]; simp
  · have q1 : (as.c ++ [p])[c]? = some a := q1
    by_cases hc : c < as.c.length
    · rw [List.getElem?_append_left hc] at q1
      rw [List.getElem?_append_left (by rw [← x.len]; exact hc)] at q2
      have na := ne a (x.there a (List.mem_of_getElem? q1))
      have z := x.cell c a u q1 q2
      cases u with
      | lst ds => obtain ⟨y1, z, vs, y2, y3⟩ := z; exact ⟨y1, z, vs, by rw [upd_ne na]; exact y2, y3⟩
      | dic ds => obtain ⟨y1, vs, y2, y3⟩ := z; exact ⟨y1, vs, by rw [upd_ne na]; exact y2, y3⟩
      | dicT ds => obtain ⟨y1, vs, y2, y3⟩ := z; exact ⟨y1, vs, by rw [upd_ne na]; exact y2, y3⟩
      | frz d => exact z
    · rw [List.getElem?_append_right (by omega)] at q1
      rw [List.getElem?_append_right (by rw [← x.len]; omega)] at q2
      rw [← x.len] at q2
      cases k : c - as.c.length with
      | zero =>
        rw [k] at q1 q2
        simp at q1 q2
        subst q1 q2
        exact y
      | succ j => rw [k] at q1; simp at q1
  · obtain ⟨p1, p2, p3⟩ := x.prot r hr
    have nr := ne r.1 (by rw [p1]; simp)
    refine ⟨by rw [upd_ne nr]; exact p1, p2, fun z => ?_⟩
    rcases List.mem_append.mp z with z | z
    · exact p3 z
    · exact nr (by simpa using z)
theorem pre_snoc {α : Type} (l : List α) (x : α) : l <+: l ++ [x] := ⟨[x], rfl⟩
section
variable {X : Cx} {e : Expr} {es : List Expr} {f : Ex} {g : Ax} {pos : Pos}
theorem r_lstO (h : PA X es (tA X.K g)) : PE X (.List es pos) (tE X.K (eLstO g)) := PE_imp (pe_lst h) fun σ H Q h => by
  obtain ⟨ρ, m, F, as, e, m', env, hp, hf, q⟩ := h
  obtain ⟨⟨es1, m1⟩, h1, hf⟩ := bind2 hf
  obtain ⟨⟨ds, m2⟩, h2, hf⟩ := bind2 hf
  refine ⟨ρ, m, F, as, es1, m1, env, hp, h1, fun vs H1 F1 as1 x1 hp1 r1 => ?_⟩
  obtain ⟨F2, x2, hp2, r2⟩ := frzAll_ok hp1 r1 h2
  split at hf
  · rename_i z
    cases hf
    have z' : vs.length ≤ sizeLine := by rw [r2.length]; exact big_le z
    refine ⟨z', fun p hn => ?_⟩
    refine q _ _ F2 ⟨as1.c ++ [p], as1.g⟩ (x1.trans (x2.trans ⟨Same.refl _, pre_snoc _ _, rfl⟩)) (hp2.cellNew hn ⟨hp2.sub.free hn, big_le z, vs, upd_same, r2⟩) (.own ?_)
    rw [← hp2.len]
    simp
  · cases hf
end
end PL
/-! PL4: targets, what is walked, comprehensions, statements, functions. -/
namespace PL
open PySem PySem.Spec L2
set_option autoImplicit false

/-! ### targets -/
abbrev Tg := E → Rho → Option Rho
structure TgOk (K : PySem.W.Frag) (g : TG) (tg : Tg) (vs : List Nat) : Prop where
  run : ∀ {v : V} {σ : L2.St} {H F : Hp} {as : Cs} {m : Store} {ρ ρ' : Rho} {e : E} {Q : L2.St → Hp → Prop}, EnvOk K F as σ ρ → HeapOk K H F as m → RepE K F as v e → tg e ρ = some ρ' →
    (∀ σ' : L2.St, EnvOk K F as σ' ρ' → σ'.length = σ.length → (∀ j : Nat, j ∉ vs → σ'[j]? = σ[j]?) → Q σ' H) → g v σ H Q
def tgName (i : Nat) : Tg := fun e ρ => some (ρ.set i (some e))
theorem tgOk_name {K : PySem.W.Frag} {i : Nat} {vs : List Nat} (hi : i ∈ vs) : TgOk K (gName i) (tgName i) vs := ⟨fun {v σ H F as m ρ ρ' e Q} env hp r h q => by
  cases h
  exact q _ (env.set i r) (by rw [List.length_set]) fun j hj => List.getElem?_set_ne (fun z => hj (by rw [← z]; exact hi))⟩
def setAll : List Nat → List D → Rho → Option Rho
  | [], [], ρ => some ρ
  | i :: is, d :: ds, ρ => setAll is ds (ρ.set i (some (.d d)))
  | _, _, _ => none
def tgTup (is : List Nat) : Tg := fun e ρ => match e with
  | .d (.tup ds) => setAll is ds ρ
  | _ => none
def gNames : List Nat → TGs
  | [] => gNil
  | i :: is => gCons (gName i) (gNames is)
theorem gNames_ok {K : PySem.W.Frag} {all : List Nat} : ∀ {is : List Nat} {ds : List D} {vs : List V} {σ : L2.St} {H F : Hp} {as : Cs} {m : Store} {ρ ρ' : Rho} {Q : L2.St → Hp → Prop}, (∀ i ∈ is, i ∈ all) → EnvOk K F as σ ρ → HeapOk K H F as m → Reps K F vs ds → setAll is ds ρ = some ρ' →
    (∀ σ' : L2.St, EnvOk K F as σ' ρ' → σ'.length = σ.length → (∀ j : Nat, j ∉ all → σ'[j]? = σ[j]?) → Q σ' H) → gNames is vs σ H Q
  | [], [], _, σ, H, F, as, m, ρ, ρ', Q, hi, env, hp, .nil, h, q => by
    cases h
    exact ⟨rfl, q σ env rfl fun _ _ => rfl⟩
  | i :: is, d :: ds, _, σ, H, F, as, m, ρ, ρ', Q, hi, env, hp, .cons r rs, h, q => by
    refine ⟨_, _, rfl, gNames_ok (all := all) (fun j hj => hi j (List.mem_cons_of_mem _ hj)) (env.set i (.d r)) hp rs h fun σ' e l s => q σ' e (by rw [l, List.length_set]) fun j hj => ?_⟩
    rw [s j hj]
    exact List.getElem?_set_ne (fun z => hj (by rw [← z]; exact hi i List.mem_cons_self))
  | [], _ :: _, _, _, _, _, _, _, _, _, _, _, _, _, _, h, _ => by cases h
  | _ :: _, [], _, _, _, _, _, _, _, _, _, _, _, _, _, h, _ => by cases h
theorem setAll_len : ∀ {is : List Nat} {ds : List D} {ρ ρ' : Rho}, setAll is ds ρ = some ρ' → ds.length = is.length
  | [], [], _, _, _ => rfl
  | i :: is, d :: ds, _, _, h => congrArg (· + 1) (setAll_len (is := is) (ds := ds) h)
  | [], _ :: _, _, _, h => by cases h
  | _ :: _, [], _, _, h => by cases h
theorem tgOk_tup {K : PySem.W.Frag} {is vs : List Nat} {n : Nat} (hn : n = is.length) (hi : ∀ i ∈ is, i ∈ vs) : TgOk K (gTup K n (gNames is)) (tgTup is) vs := ⟨fun {v σ H F as m ρ ρ' e Q} env hp r h q => by
  unfold tgTup at h
  split at h
  · rename_i ds
    cases r with
    | d r =>
      obtain ⟨a, xs, rfl, f1, h1, z1, r1⟩ := RepL.tup hp.sub (.of r : RepL K H F v (.tup ds))
      exact ⟨a, xs, rfl, .of h1, by rw [r1.length, setAll_len h, hn], gNames_ok hi env hp r1 h q⟩
  · cases h⟩

/-! ### what is walked -/
abbrev Ix := Rho → Store → Option (List D × Store)
def Walks (K : PySem.W.Frag) (J : It) (F : Hp) (xs : List D) : Prop := ∀ F2 as2 m2 H2, Same F F2 → HeapOk K H2 F2 as2 m2 → ∀ i : Nat,
  (xs.length ≤ i → J.stop i H2) ∧ ∀ d, xs[i]? = some d → J.go i H2 ∧ ∀ x H', J.yld i H2 x H' → ∃ F', Grow H2 F2 H' F' ∧ Rep K F' x d
def tI (K : PySem.W.Frag) (f : Ix) : TI := fun σ H R => ∃ ρ m F as xs m', EnvOk K F as σ ρ ∧ HeapOk K H F as m ∧ f ρ m = some (xs, m') ∧
  ∀ J H' F' as', Ext F F' as as' → HeapOk K H' F' as' m' → Walks K J F' xs → R J H'
section
variable {X : Cx} {tg iter : Expr} {wi wi' : TI}
theorem PI_imp (h : PI X tg iter wi) (i : ∀ σ H R, wi' σ H R → wi σ H R) : PI X tg iter wi' := ⟨fun pins s σ H R I q => h.run pins s σ H R I (i σ H R q)⟩
theorem PI_or (h : PI X tg iter wi) (h' : PI X tg iter wi') : PI X tg iter (fun σ H R => wi σ H R ∨ wi' σ H R) := ⟨fun pins s σ H R I q => q.elim (h.run pins s σ H R I) (h'.run pins s σ H R I)⟩
end
def itemsOf : D → Option (List D)
  | .lst xs => some xs
  | .tup xs => some xs
  | _ => none
/-- a list or a tuple -/
def iSeq (f : Ex) : Ix := fun ρ m => (f ρ m).bind fun p => (frzE p.2 p.1).bind fun q => (itemsOf q.1).bind fun xs => some (xs, q.2)
section
variable {K : PySem.W.Frag} {F H : Hp} {as : Cs} {m : Store} {a : Addr} {vs : List V} {ds : List D}
theorem FSub.tup (s : FSub F H) (h : F a = some (.tup vs)) : H a = some (.tup vs) := by
  rcases s _ _ h with q | ⟨q, _⟩
  · exact q
  · cases q
theorem FSub.lst (s : FSub F H) (h : F a = some (.lst vs)) : H a = some (.lst vs) := by
  rcases s _ _ h with q | ⟨q, _⟩
  · exact q
  · cases q
theorem walks_list (h : F a = some (.lst vs)) (r : Reps K F vs ds) : Walks K (Itl K a) F ds := by
  intro F2 as2 m2 H2 x hp i
  have hH := hp.sub.lst (x _ _ h)
  have rl := r.length
  refine ⟨fun hi => ⟨vs, .of hH, by omega⟩, fun d h1 => ?_⟩
  obtain ⟨v, h2, h3⟩ := r.get h1
  refine ⟨⟨vs, v, .of hH, h2⟩, fun x' H' ⟨e1, e2⟩ => ?_⟩
  subst e1
  have e3 := e2 vs (.of hH)
  rw [h2] at e3
  cases e3
  exact ⟨F2, .refl hp.sub, h3.mono x⟩
theorem walks_tup (h : F a = some (.tup vs)) (r : Reps K F vs ds) : Walks K (Itt K a) F ds := by
  intro F2 as2 m2 H2 x hp i
  have hH := hp.sub.tup (x _ _ h)
  have rl := r.length
  refine ⟨fun hi => ⟨vs, .of hH, by omega⟩, fun d h1 => ?_⟩
  obtain ⟨v, h2, h3⟩ := r.get h1
  refine ⟨⟨vs, v, .of hH, h2⟩, fun x' H' ⟨e1, e2⟩ => ?_⟩
  subst e1
  have e3 := e2 vs (.of hH)
  rw [h2] at e3
  cases e3
  exact ⟨F2, .refl hp.sub, h3.mono x⟩
end
section
variable {X : Cx} {tg l : Expr} {f fa fb : Ex} {p pos : Pos}
theorem r_iter (h : PE X l (tE X.K f)) : PI X tg l (tI X.K (iSeq f)) := by
  refine PI_imp (PI_or (pi_list h) (pi_tup h)) fun σ H R h => ?_
  obtain ⟨ρ, m, F, as, xs, m', env, hp, hf, q⟩ := h
  obtain ⟨⟨e, m1⟩, h1, hf⟩ := bind2 hf
  obtain ⟨⟨d, m2⟩, h2, hf⟩ := bind2 hf
  obtain ⟨ds, h3, hf⟩ := bind2 hf
  cases hf
  cases d with
  | lst ds' =>
    cases h3
    refine .inl (estep env hp h1 fun v H1 F1 as1 x1 hp1 env1 r1 => ?_)
    obtain ⟨F2, x2, hp2, r2⟩ := frzE_ok hp1 r1 h2
    cases r2 with
    | lst e1 e2 e3 => exact ⟨_, rfl, ⟨_, .of (hp2.sub.lst e1)⟩, q _ H1 F2 as1 (x1.trans x2) hp2 (walks_list e1 e3)⟩
  | tup ds' =>
    cases h3
    refine .inr (estep env hp h1 fun v H1 F1 as1 x1 hp1 env1 r1 => ?_)
    obtain ⟨F2, x2, hp2, r2⟩ := frzE_ok hp1 r1 h2
    cases r2 with
    | tup e1 e2 e3 => exact ⟨_, rfl, ⟨_, .of (hp2.sub.tup e1)⟩, q _ H1 F2 as1 (x1.trans x2) hp2 (walks_tup e1 e3)⟩
  | _ => cases h3
def rangeE (lo : Int) (n : Nat) : List D := (List.range n).map fun (i : Nat) => .int (lo + (i : Int))
theorem rangeE_length (lo : Int) (n : Nat) : (rangeE lo n).length = n := by unfold rangeE; rw [List.length_map, List.length_range]
theorem walks_range {K : PySem.W.Frag} {F : Hp} (lo : Int) (n : Nat) : Walks K (Itr lo n) F (rangeE lo n) := by
  intro F2 as2 m2 H2 x hp i
  refine ⟨fun hi => by rw [rangeE_length] at hi; exact hi, fun e he => ?_⟩
  have hi : i < n := by rw [← rangeE_length lo n]; exact (List.getElem?_eq_some_iff.mp he).1
  refine ⟨hi, fun x' H' ⟨e1, e2⟩ => ?_⟩
  subst e1 e2
  refine ⟨F2, .refl hp.sub, ?_⟩
  unfold rangeE at he
  rw [List.getElem?_map, List.getElem?_range hi] at he
  cases he
  exact .int
def intOf (m : Store) (e : E) : Option Int := match look m e with
  | some (.int i) => some i
  | _ => none
theorem intOf_rep {K : PySem.W.Frag} {F H : Hp} {as : Cs} {m : Store} {v : V} {e : E} {i : Int} (x : HeapOk K H F as m) (r : RepE K F as v e) (h : intOf m e = some i) : v = .int i := by
  unfold intOf at h
  split at h
  · rename_i j e1
    cases h
    exact (look_rep x r e1).int
  · cases h
noncomputable def iRange1 (f : Ex) : Ix := fun ρ m => (f ρ m).bind fun p => (intOf p.2 p.1).bind fun n => if okP (-(big : Int) ≤ n ∧ n ≤ (big : Int)) = true then some (rangeE 0 n.toNat, p.2) else none
noncomputable def iRange2 (f g : Ex) : Ix := fun ρ m => (f ρ m).bind fun p => (g ρ p.2).bind fun q => (intOf q.2 p.1).bind fun a => (intOf q.2 q.1).bind fun b => if okP (-(big : Int) ≤ a ∧ a ≤ big ∧ -(big : Int) ≤ b ∧ b ≤ big) = true then some (rangeE a (b - a).toNat, q.2) else none
theorem r_range1 {a : Expr} (hg : Gl X "range") (hm : X.mg "range" = none) (ha : PE X a (tE X.K fa)) (hs : starEach [a] X.env = [(false, eval a X.env)] := by rfl) (hs0 : starEach [a] X.env = (false, eval a X.env) :: starEach [] X.env := by rfl) :
    PI X tg (.Call (.Name "range" p) [a] [] pos) (tI X.K (iRange1 fa)) := by
  refine PI_imp (pi_range1 hg hm (pa_cons ha pa_nil hs0) hs) fun σ H R h => ?_
  obtain ⟨ρ, m, F, as, xs, m', env, hp, hf, q⟩ := h
  obtain ⟨⟨e, m1⟩, h1, hf⟩ := bind2 hf
  obtain ⟨n, h2, hf⟩ := bind2 hf
  split at hf
  · rename_i z
    have z := of_okP z
    cases hf
    refine estep env hp h1 fun v H1 F1 as1 x1 hp1 env1 r1 => ?_
    have ev := intOf_rep hp1 r1 h2
    subst ev
    have hb : (big : Int) = 1000000 := rfl
    exact ⟨n, rfl, by omega, by omega, q _ H1 F1 as1 x1 hp1 (walks_range 0 n.toNat)⟩
  · cases hf
theorem r_range2 {a b : Expr} (hg : Gl X "range") (hm : X.mg "range" = none) (ha : PE X a (tE X.K fa)) (hb : PE X b (tE X.K fb)) (hs : starEach [a, b] X.env = [(false, eval a X.env), (false, eval b X.env)] := by rfl) (hs2 : starEach [b] X.env = [(false, eval b X.env)] := by rfl)
    (hsa : starEach [a, b] X.env = (false, eval a X.env) :: starEach [b] X.env := by rfl) (hs0 : starEach [b] X.env = (false, eval b X.env) :: starEach [] X.env := by rfl) :
    PI X tg (.Call (.Name "range" p) [a, b] [] pos) (tI X.K (iRange2 fa fb)) := by
  refine PI_imp (pi_range2 hg hm (pa_cons ha (pa_cons hb pa_nil hs0) hsa) hs hs2) fun σ H R h => ?_
  obtain ⟨ρ, m, F, as, xs, m', env, hp, hf, q⟩ := h
  obtain ⟨⟨e, m1⟩, h1, hf⟩ := bind2 hf
  obtain ⟨⟨e2, m2⟩, h2, hf⟩ := bind2 hf
  obtain ⟨i, h3, hf⟩ := bind2 hf
  obtain ⟨j, h4, hf⟩ := bind2 hf
  split at hf
  · rename_i z
    have z := of_okP z
    cases hf
    refine estep env hp h1 fun v H1 F1 as1 x1 hp1 env1 r1 => estep env1 hp1 h2 fun w H2 F2 as2 x2 hp2 env2 r2 => ?_
    have ev := intOf_rep hp2 (r1.ext x2) h3
    have ew := intOf_rep hp2 r2 h4
    subst ev ew
    have hb : (big : Int) = 1000000 := rfl
    exact ⟨i, j, rfl, ⟨by omega, by omega, by omega, by omega⟩, q _ H2 F2 as2 (x1.trans x2) hp2 (walks_range i (j - i).toNat)⟩
  · cases hf
end

/-! ### list comprehensions -/
def lcLoop (g : Tg) (tt : Tx) (te : Ex) (ρ : Rho) : List D → Store → Option (List D × Store)
  | [], m => some ([], m)
  | x :: xs, m => (g (.d x) ρ).bind fun ρ1 => (tt ρ1 m).bind fun b => if b.1 = true then (te ρ1 b.2).bind fun y => (frzE y.2 y.1).bind fun d => (lcLoop g tt te ρ xs d.2).bind fun r => some (d.1 :: r.1, r.2)
    else lcLoop g tt te ρ xs b.2
def eLc (it : Ix) (vs : List Nat) (g : Tg) (tt : Tx) (te : Ex) : Ex := fun ρ m => (it ρ m).bind fun p => (lcLoop g tt te (wipeE ρ vs) p.1 p.2).bind fun r => if r.1.length ≤ big then some (.d (.lst r.1), r.2) else none
def eLcO (it : Ix) (vs : List Nat) (g : Tg) (tt : Tx) (te : Ex) : Ex := fun ρ m => (it ρ m).bind fun p => (lcLoop g tt te (wipeE ρ vs) p.1 p.2).bind fun r => if r.1.length ≤ big then some (.own r.2.length, r.2 ++ [.lst r.1]) else none
def tTrue : Tx := fun _ m => some (true, m)
theorem wipe_get {σ : L2.St} {j : Nat} : ∀ {vs : List Nat}, j ∉ vs → (wipe σ vs)[j]? = σ[j]?
  | [], _ => rfl
  | v :: vs, h => by
    show ((wipe σ vs).set v none)[j]? = _
    rw [List.getElem?_set_ne (fun z => h (by rw [z]; exact List.mem_cons_self)), wipe_get (fun z => h (List.mem_cons_of_mem _ z))]
theorem wipe_at {σ : L2.St} {j : Nat} : ∀ {vs : List Nat}, j ∈ vs → j < σ.length → (wipe σ vs)[j]? = some none
  | v :: vs, h, hl => by
    show ((wipe σ vs).set v none)[j]? = _
    by_cases e : v = j
    · subst e
      rw [List.getElem?_set_self (by rw [wipe_length]; exact hl)]
    · rw [List.getElem?_set_ne e]
      rcases List.mem_cons.mp h with q | q
      · exact absurd q.symm e
      · exact wipe_at q hl
theorem wipe_eq {σ σ' : L2.St} {vs : List Nat} (hl : σ'.length = (wipe σ vs).length) (h : ∀ j : Nat, j ∉ vs → σ'[j]? = (wipe σ vs)[j]?) : wipe σ' vs = wipe σ vs := by
  refine List.ext_getElem? fun j => ?_
  rw [wipe_length] at hl
  by_cases hj : j ∈ vs
  · by_cases hs : j < σ.length
    · rw [wipe_at hj (by rw [hl]; exact hs), wipe_at hj hs]
    · rw [List.getElem?_eq_none (by rw [wipe_length]; omega), List.getElem?_eq_none (by rw [wipe_length]; omega)]
  · rw [wipe_get hj, h j hj]
theorem lcLoop_len {g : Tg} {tt : Tx} {te : Ex} {ρ : Rho} : ∀ {xs : List D} {m m' : Store} {ds : List D}, lcLoop g tt te ρ xs m = some (ds, m') → ds.length ≤ xs.length
  | [], _, _, _, h => by cases h; exact Nat.zero_le _
  | x :: xs, m, m', ds, h => by
    obtain ⟨ρ1, h1, h⟩ := bind2 h
    obtain ⟨⟨b, m1⟩, h2, h⟩ := bind2 h
    split at h
    · obtain ⟨⟨y, m2⟩, h3, h⟩ := bind2 h
      obtain ⟨⟨d, m3⟩, h4, h⟩ := bind2 h
      obtain ⟨⟨r, m4⟩, h5, h⟩ := bind2 h
      cases h
      exact Nat.succ_le_succ (lcLoop_len h5)
    · exact Nat.le_succ_of_le (lcLoop_len h)
/-- the new list at D while it is made: it is to stand -/
theorem lc_main {K : PySem.W.Frag} {J : It} {g : TG} {tg : Tg} {tt : Tx} {te : Ex} {vs : List Nat} {σ : L2.St} {H F : Hp} {as : Cs} {m m' : Store} {ρ : Rho} {xs : List D} {ds : List D} {L : Addr} {Q : VK}
    (hg : TgOk K g tg vs) (env : EnvOk K F as σ ρ) (hp : HeapOk K H F as m) (wk : Walks K J F xs) (hf : lcLoop tg tt te (wipeE ρ vs) xs m = some (ds, m')) (hb : ds.length ≤ big) (hD : H L = none)
    (q : ∀ (H' F' : Hp) (c' : List Addr) (vs' : List V), Same F F' → as.c <+: c' → Reps K F' vs' ds → HeapOk K H' F' ⟨c', (L, .lst vs') :: as.g⟩ m' → Q (.ref L) H') :
    ∃ W : Nat → Nat → Hp → Prop, (∃ n, W 0 n (upd H L (.lst []))) ∧ ∀ i n H, W i n H →
  (J.stop i H ∧ Q (.ref L) H) ∨ (J.go i H ∧ ∃ Nx : Hp → Prop, (∀ H', Nx H' → ∃ n', n' < n ∧ W (i + 1) n' H') ∧ ∀ x H', J.yld i H x H' → g x (wipe σ vs) H' fun σ2 H2 => wipe σ2 vs = wipe σ vs ∧ tT K tt σ2 H2 fun b H3 =>
    if b = true then tE K te σ2 H3 fun y H4 => ∃ acc, H4 L = some (.lst acc) ∧ acc.length < sizeLine ∧ Nx (upd H4 L (.lst (acc ++ [y]))) else Nx H3) := by
  refine ⟨fun i n H1 => n = xs.length - i ∧ i ≤ xs.length ∧ ∃ (F1 : Hp) (c1 : List Addr) (m1 : Store) (acc : List V) (d1 d2 : List D), Same F F1 ∧ as.c <+: c1 ∧ Reps K F1 acc d1 ∧ HeapOk K H1 F1 ⟨c1, (L, .lst acc) :: as.g⟩ m1 ∧ lcLoop tg tt te (wipeE ρ vs) (xs.drop i) m1 = some (d2, m') ∧ ds = d1 ++ d2,
    ⟨_, rfl, Nat.zero_le _, F, as.c, m, [], [], ds, Same.refl F, List.prefix_refl _, .nil, ?_, hf, rfl⟩, ?_⟩
  · have ne : ∀ a, H a ≠ none → a ≠ L := fun a q z => q (by rw [z]; exact hD)
    have nc : L ∉ as.c := fun z => hp.there L z hD
    refine ⟨fun a u q => by rw [upd_ne (ne a (hp.sub.there q))]; exact hp.sub a u q, hp.len, hp.nd, fun a q => by rw [upd_ne (ne a (hp.there a q))]; exact hp.there a q, fun c a u q1 q2 => ?_, fun p hq => ?_, ?_⟩
    rotate_left 2
    · show (L :: as.g.map (·.1)).Nodup
      refine List.nodup_cons.mpr ⟨fun z => ?_, hp.pnd⟩
      obtain ⟨p, hq, e⟩ := List.mem_map.mp z
      have e1 := (hp.prot p hq).1
      rw [e, hD] at e1
      cases e1
    · have na := ne a (hp.there a (List.mem_of_getElem? q1))
      have z := hp.cell c a u q1 q2
      cases u with
      | lst ds => obtain ⟨y1, z, vs, y2, y3⟩ := z; exact ⟨y1, z, vs, by rw [upd_ne na]; exact y2, y3⟩
      | dic ds => obtain ⟨y1, vs, y2, y3⟩ := z; exact ⟨y1, vs, by rw [upd_ne na]; exact y2, y3⟩
      | dicT ds => obtain ⟨y1, vs, y2, y3⟩ := z; exact ⟨y1, vs, by rw [upd_ne na]; exact y2, y3⟩
      | frz d => exact z
    · rcases List.mem_cons.mp hq with rfl | hq
      · exact ⟨upd_same, hp.sub.free hD, nc⟩
      · obtain ⟨p1, p2, p3⟩ := hp.prot p hq
        exact ⟨by rw [upd_ne (ne p.1 (by rw [p1]; simp))]; exact p1, p2, p3⟩
  · rintro i n H1 ⟨rfl, hi, F1, c1, m1, acc, d1, d2, s1, pc, ra, hp1, hl, eds⟩
    obtain ⟨w1, w2⟩ := wk F1 _ m1 H1 s1 hp1 i
    by_cases hlt : i < xs.length
    · obtain ⟨hgo, hy⟩ := w2 xs[i] (List.getElem?_eq_getElem hlt)
      refine .inr ⟨hgo, fun H' => ∃ (F1 : Hp) (c1 : List Addr) (m1 : Store) (acc : List V) (d1 d2 : List D), Same F F1 ∧ as.c <+: c1 ∧ Reps K F1 acc d1 ∧ HeapOk K H' F1 ⟨c1, (L, .lst acc) :: as.g⟩ m1 ∧ lcLoop tg tt te (wipeE ρ vs) (xs.drop (i + 1)) m1 = some (d2, m') ∧ ds = d1 ++ d2,
        fun H' h => ⟨_, by omega, rfl, hlt, h⟩, fun x H' hx => ?_⟩
      obtain ⟨F2, gr, rx⟩ := hy x H' hx
      have hp2 := hp1.grow gr
      have s2 := gr.same hp1.sub
      have env2 : EnvOk K F2 ⟨c1, (L, .lst acc) :: as.g⟩ (wipe σ vs) (wipeE ρ vs) := by
        refine ⟨(env.wipe vs).len, fun j e h => ?_⟩
        obtain ⟨v, a, b⟩ := (env.wipe vs).get j e h
        refine ⟨v, a, ?_⟩
        have sm := s1.trans s2
        cases b with
        | d r => exact .d (r.mono sm)
        | own r => exact .own (pre_get pc r)
        | deal d1 d2 z d3 => exact .deal (sm _ _ d1) (sm _ _ d2) z (pre_get pc d3)
      rw [List.drop_eq_getElem_cons hlt] at hl
      obtain ⟨ρ1, h1, hl⟩ := bind2 hl
      obtain ⟨⟨b, m2⟩, h2, hl⟩ := bind2 hl
      refine hg.run env2 hp2 (.d rx) h1 fun σ' env3 l3 s3 => ⟨wipe_eq l3 s3, ?_⟩
      refine tstep env3 hp2 h2 fun H3 F3 as3 x3 hp3 env4 => ?_
      obtain ⟨c3, g3⟩ := as3
      obtain ⟨x31, x32, x33⟩ := x3
      have eg : g3 = (L, .lst acc) :: as.g := x33
      subst eg
      cases b with
      | false =>
        exact ⟨F3, c3, m2, acc, d1, d2, (s1.trans s2).trans x31, pc.trans x32, (ra.mono s2).mono x31, hp3, hl, eds⟩
      | true =>
        obtain ⟨⟨y, m3⟩, h3, hl⟩ := bind2 hl
        obtain ⟨⟨d, m4⟩, h4, hl⟩ := bind2 hl
        obtain ⟨⟨r, m5⟩, h5, hl⟩ := bind2 hl
        cases hl
        refine estep env4 hp3 h3 fun yv H4 F4 as4 x4 hp4 env5 ry => ?_
        obtain ⟨c4, g4⟩ := as4
        obtain ⟨x41, x42, x43⟩ := x4
        have eg : g4 = (L, .lst acc) :: as.g := x43
        subst eg
        obtain ⟨F5, x5, hp5, rd⟩ := frzE_ok hp4 ry h4
        have sF : Same F1 F5 := ((s2.trans x31).trans x41).trans x5.1
        have pr := hp5.prot (L, .lst acc) List.mem_cons_self
        have lenA : acc.length = d1.length := ra.length
        have lenB : d1.length < ds.length := by rw [eds, List.length_append, List.length_cons]; omega
        refine ⟨acc, pr.1, Nat.lt_of_lt_of_le (by rw [lenA]; exact lenB) (big_le hb), F5, c4, m4, acc ++ [yv], d1 ++ [d], r, s1.trans sF, (pc.trans x32).trans x42, (ra.mono sF).append (.cons rd .nil), ?_, h5, by rw [eds]; simp⟩
        refine ⟨fun a u q => ?_, hp5.len, hp5.nd, fun a q => ?_, fun c a u q1 q2 => ?_, fun p hq => ?_, hp5.pnd⟩
        · rw [upd_ne (fun z => by rw [z, pr.2.1] at q; cases q)]; exact hp5.sub a u q
        · rw [upd_ne (fun z => pr.2.2 (by rw [← z]; exact q))]; exact hp5.there a q
        · have na : a ≠ L := fun z => pr.2.2 (by rw [← z]; exact List.mem_of_getElem? q1)
          have z := hp5.cell c a u q1 q2
          cases u with
          | lst ds => obtain ⟨y1, z, vs, y2, y3⟩ := z; exact ⟨y1, z, vs, by rw [upd_ne na]; exact y2, y3⟩
          | dic ds => obtain ⟨y1, vs, y2, y3⟩ := z; exact ⟨y1, vs, by rw [upd_ne na]; exact y2, y3⟩
          | dicT ds => obtain ⟨y1, vs, y2, y3⟩ := z; exact ⟨y1, vs, by rw [upd_ne na]; exact y2, y3⟩
          | frz d => exact z
        · rcases List.mem_cons.mp hq with rfl | hq
          · exact ⟨upd_same, pr.2.1, pr.2.2⟩
          · obtain ⟨p1, p2, p3⟩ := hp5.prot p (List.mem_cons_of_mem _ hq)
            have np : p.1 ≠ L := fun z => by
              have e := (hp.prot p hq).1
              rw [z, hD] at e
              cases e
            exact ⟨by rw [upd_ne np]; exact p1, p2, p3⟩
    · have e : i = xs.length := by omega
      subst e
      rw [List.drop_length] at hl
      cases hl
      rw [List.append_nil] at eds
      subst eds
      exact .inl ⟨w1 (Nat.le_refl _), q H1 F1 c1 acc s1 pc ra hp1⟩

section
variable {K : PySem.W.Frag} {F F' H H' : Hp} {c : List Addr} {g : List (Addr × HO)} {m : Store} {L : Addr} {vs : List V} {ds : List D}
/-- the made list becomes data, or a cell -/
theorem made_frz (hp : HeapOk K H F ⟨c, (L, .lst vs) :: g⟩ m) (r : Reps K F vs ds) (hb : ds.length ≤ big) : Same F (upd F L (.lst vs)) ∧ HeapOk K H (upd F L (.lst vs)) ⟨c, g⟩ m ∧ Rep K (upd F L (.lst vs)) (.ref L) (.lst ds) := by
  obtain ⟨p1, p2, p3⟩ := hp.prot (L, .lst vs) List.mem_cons_self
  have sm : Same F (upd F L (.lst vs)) := Same.updF p2
  refine ⟨sm, ⟨fun b u q => ?_, hp.len, hp.nd, hp.there, fun c' b u q1 q2 => ?_, fun p hq => ?_, (List.nodup_cons.mp hp.pnd).2⟩, .lst upd_same (by rw [r.length]; exact big_le hb) (r.mono sm)⟩
  · by_cases e : b = L
    · subst e
      rw [upd_same] at q
      cases q
      exact .inl p1
    · rw [upd_ne e] at q
      exact hp.sub b u q
  · have nb : b ≠ L := fun z => p3 (by rw [← z]; exact List.mem_of_getElem? q1)
    have y := hp.cell c' b u q1 q2
    cases u with
    | lst ds => obtain ⟨y1, z, vs, y2, y3⟩ := y; exact ⟨by rw [upd_ne nb]; exact y1, z, vs, y2, y3.mono sm⟩
    | dic ds => obtain ⟨y1, vs, y2, y3⟩ := y; exact ⟨by rw [upd_ne nb]; exact y1, vs, y2, y3.mono sm⟩
    | dicT ds => obtain ⟨y1, vs, y2, y3⟩ := y; exact ⟨by rw [upd_ne nb]; exact y1, vs, y2, y3.mono sm⟩
    | frz d' => exact Rep.mono sm y
  · obtain ⟨q1, q2, q3⟩ := hp.prot p (List.mem_cons_of_mem _ hq)
    exact ⟨q1, by rw [upd_ne (fun z => (List.nodup_cons.mp hp.pnd).1 (List.mem_map.mpr ⟨p, hq, z⟩))]; exact q2, q3⟩
theorem made_own (hp : HeapOk K H F ⟨c, (L, .lst vs) :: g⟩ m) (r : Reps K F vs ds) (hb : ds.length ≤ big) : HeapOk K H F ⟨c ++ [L], g⟩ (m ++ [.lst ds]) := by
  obtain ⟨p1, p2, p3⟩ := hp.prot (L, .lst vs) List.mem_cons_self
  have hl : c.length = m.length := hp.len
  refine ⟨hp.sub, by show (c ++ [L]).length = _; rw [List.length_append, List.length_append, hl]; rfl, ?_, fun a q => ?_, fun c' b u q1 q2 => ?_, fun p hq => ?_, (List.nodup_cons.mp hp.pnd).2⟩
  · show (c ++ [L]).Nodup
    rw [List.nodup_append]
    refine ⟨hp.nd, by simp, fun a ha b hb => ?_⟩
    have e : b = L := by simpa using hb
    rw [e]
    exact fun z => p3 (by rw [← z]; exact ha)
  · rcases List.mem_append.mp q with q | q
    · exact hp.there a q
    · have e : a = L := by simpa using q
      rw [e, p1]; simp
  · have q1 : (c ++ [L])[c']? = some b := q1
    by_cases hc : c' < c.length
    · rw [List.getElem?_append_left hc] at q1
      rw [List.getElem?_append_left (by rw [← hl]; exact hc)] at q2
      exact hp.cell c' b u q1 q2
    · rw [List.getElem?_append_right (by omega)] at q1
      rw [List.getElem?_append_right (by rw [← hl]; omega)] at q2
      rw [← hl] at q2
      cases k : c' - c.length with
      | zero =>
        rw [k] at q1 q2
        simp at q1 q2
        subst q1 q2
        exact ⟨p2, big_le hb, vs, p1, r⟩
      | succ j => rw [k] at q1; simp at q1
  · obtain ⟨q1, q2, q3⟩ := hp.prot p (List.mem_cons_of_mem _ hq)
    refine ⟨q1, q2, fun z => ?_⟩
    rcases List.mem_append.mp z with z | z
    · exact q3 z
    · exact (List.nodup_cons.mp hp.pnd).1 (List.mem_map.mpr ⟨p, hq, by simpa using z⟩)
end
section
variable {X : Cx} {elt tg iter : Expr} {ifs : List Expr} {scope : Scope} {own : List (Str × Nat)} {pos : Pos} {it : Ix} {g : TG} {tgm : Tg} {tt : Tx} {te : Ex}
theorem lc_read (hg : TgOk X.K g tgm (own.map (·.2))) : ∀ σ H Q, tE X.K (eLc it (own.map (·.2)) tgm tt te) σ H Q → tLc (tI X.K it) g (tT X.K tt) (tE X.K te) (own.map (·.2)) σ H Q := by
  intro σ H Q h
  obtain ⟨ρ, m, F, as, e, m', env, hp, hf, q⟩ := h
  obtain ⟨⟨xs, m1⟩, h1, hf⟩ := bind2 hf
  obtain ⟨⟨ds, m2⟩, h2, hf⟩ := bind2 hf
  split at hf
  · rename_i z
    cases hf
    refine ⟨ρ, m, F, as, xs, m1, env, hp, h1, fun J H1 F1 as1 x1 hp1 wk L hL => ?_⟩
    refine lc_main hg (env.ext x1) hp1 wk h2 z hL fun H2 F2 c2 vs2 s2 p2 r2 hp2 => ?_
    obtain ⟨s3, hp3, r3⟩ := made_frz hp2 r2 z
    exact q _ _ _ ⟨c2, as1.g⟩ (x1.trans ⟨s2.trans s3, p2, rfl⟩) hp3 (.d r3)
  · cases hf
theorem lcO_read (hg : TgOk X.K g tgm (own.map (·.2))) : ∀ σ H Q, tE X.K (eLcO it (own.map (·.2)) tgm tt te) σ H Q → tLc (tI X.K it) g (tT X.K tt) (tE X.K te) (own.map (·.2)) σ H Q := by
  intro σ H Q h
  obtain ⟨ρ, m, F, as, e, m', env, hp, hf, q⟩ := h
  obtain ⟨⟨xs, m1⟩, h1, hf⟩ := bind2 hf
  obtain ⟨⟨ds, m2⟩, h2, hf⟩ := bind2 hf
  split at hf
  · rename_i z
    cases hf
    refine ⟨ρ, m, F, as, xs, m1, env, hp, h1, fun J H1 F1 as1 x1 hp1 wk L hL => ?_⟩
    refine lc_main hg (env.ext x1) hp1 wk h2 z hL fun H2 F2 c2 vs2 s2 p2 r2 hp2 => ?_
    refine q _ _ _ ⟨c2 ++ [L], as1.g⟩ (x1.trans ⟨s2, p2.trans (pre_snoc _ _), rfl⟩) (made_own hp2 r2 z) (.own ?_)
    have e := hp2.len
    show (c2 ++ [L])[m2.length]? = some L
    rw [← e]
    simp
  · cases hf
end

/-! ### statements -/
inductive Fl where
  | nx | bk | ct | rt (e : E)
abbrev Sx := Rho → Store → Option (Fl × Rho × Store)
def EndOk (K : PySem.W.Frag) (F : Hp) (as : Cs) (D : Ends) (fl : Fl) (ρ' : Rho) (m' : Store) : Prop := match fl with
  | .nx => ∀ σ' H' F' as', Ext F F' as as' → EnvOk K F' as' σ' ρ' → HeapOk K H' F' as' m' → D.nx σ' H'
  | .bk => ∀ σ' H' F' as', Ext F F' as as' → EnvOk K F' as' σ' ρ' → HeapOk K H' F' as' m' → D.bk σ' H'
  | .ct => ∀ σ' H' F' as', Ext F F' as as' → EnvOk K F' as' σ' ρ' → HeapOk K H' F' as' m' → D.ct σ' H'
  | .rt e => ∀ v H' F' as', Ext F F' as as' → RepE K F' as' v e → HeapOk K H' F' as' m' → D.rt v H'
def tS (K : PySem.W.Frag) (f : Sx) : TS := fun D σ H => ∃ ρ m F as fl ρ' m', EnvOk K F as σ ρ ∧ HeapOk K H F as m ∧ f ρ m = some (fl, ρ', m') ∧ EndOk K F as D fl ρ' m'
theorem EndOk.ext {K : PySem.W.Frag} {F F' : Hp} {as as' : Cs} {D : Ends} {fl : Fl} {ρ' : Rho} {m' : Store} (x : Ext F F' as as') (h : EndOk K F as D fl ρ' m') : EndOk K F' as' D fl ρ' m' := by
  cases fl with
  | nx => exact fun σ' H' F2 as2 x2 => h σ' H' F2 as2 (x.trans x2)
  | bk => exact fun σ' H' F2 as2 x2 => h σ' H' F2 as2 (x.trans x2)
  | ct => exact fun σ' H' F2 as2 x2 => h σ' H' F2 as2 (x.trans x2)
  | rt e => exact fun v H' F2 as2 x2 => h v H' F2 as2 (x.trans x2)
def sNil : Sx := fun ρ m => some (.nx, ρ, m)
def sSeq (f g : Sx) : Sx := fun ρ m => (f ρ m).bind fun r => match r.1 with
  | .nx => g r.2.1 r.2.2
  | _ => some r
def sIf (t : Tx) (f g : Sx) : Sx := fun ρ m => (t ρ m).bind fun b => if b.1 = true then f ρ b.2 else g ρ b.2
def sAsg (f : Ex) (tg : Tg) : Sx := fun ρ m => (f ρ m).bind fun p => (tg p.1 ρ).bind fun ρ' => some (.nx, ρ', p.2)
def sSet (i : Nat) (f : Ex) : Sx := sAsg f (tgName i)
def sExp (f : Ex) : Sx := fun ρ m => (f ρ m).bind fun p => some (.nx, ρ, p.2)
def sRet (f : Ex) : Sx := fun ρ m => (f ρ m).bind fun p => some (.rt p.1, ρ, p.2)
def sRetN : Sx := fun ρ m => some (.rt (.d .non), ρ, m)
def sBrk : Sx := fun ρ m => some (.bk, ρ, m)
def sCnt : Sx := fun ρ m => some (.ct, ρ, m)
def forL (tg : Tg) (body : Sx) : List D → Sx
  | [], ρ, m => some (.nx, ρ, m)
  | x :: xs, ρ, m => (tg (.d x) ρ).bind fun ρ1 => (body ρ1 m).bind fun r => match r.1 with
    | .nx => forL tg body xs r.2.1 r.2.2
    | .ct => forL tg body xs r.2.1 r.2.2
    | .bk => some (.nx, r.2.1, r.2.2)
    | .rt e => some (.rt e, r.2.1, r.2.2)
def sFor (it : Ix) (tg : Tg) (body : Sx) : Sx := fun ρ m => (it ρ m).bind fun p => forL tg body p.1 ρ p.2
def whileF (t : Tx) (body : Sx) : Nat → Sx
  | 0, _, _ => none
  | n + 1, ρ, m => (t ρ m).bind fun b => if b.1 = true then (body ρ b.2).bind fun r => match r.1 with
    | .nx => whileF t body n r.2.1 r.2.2
    | .ct => whileF t body n r.2.1 r.2.2
    | .bk => some (.nx, r.2.1, r.2.2)
    | .rt e => some (.rt e, r.2.1, r.2.2)
    else some (.nx, ρ, b.2)
/-- a while that ends within some number of turns -/
def sWhile (N : Nat) (t : Tx) (body : Sx) : Sx := whileF t body N
section
variable {X : Cx} {st : Stmt} {rest : List Stmt} {f g : Sx} {t t' : TS} {e c : Expr} {fe : Ex} {ft : Tx} {pos pos' : Pos}
theorem PS_imp (h : PS X st t) (i : ∀ D σ H, t' D σ H → t D σ H) : PS X st t' := ⟨fun pins s σ H D I q => h.run pins s σ H D I (i D σ H q)⟩
theorem PSs_imp (h : PSs X rest t) (i : ∀ D σ H, t' D σ H → t D σ H) : PSs X rest t' := ⟨fun pins s σ H D I q => h.run pins s σ H D I (i D σ H q)⟩
theorem r_nil : PSs X [] (tS X.K sNil) := PSs_imp pss_nil fun D σ H h => by
  obtain ⟨ρ, m, F, as, fl, ρ', m', env, hp, hf, q⟩ := h
  cases hf
  exact q σ H F as .refl env hp
theorem seq_read : ∀ D σ H, tS X.K (sSeq f g) D σ H → tSeq (tS X.K f) (tS X.K g) D σ H := by
  intro D σ H h
  obtain ⟨ρ, m, F, as, fl, ρ', m', env, hp, hf, q⟩ := h
  obtain ⟨⟨fl1, ρ1, m1⟩, h1, hf⟩ := bind2 hf
  refine ⟨ρ, m, F, as, fl1, ρ1, m1, env, hp, h1, ?_⟩
  cases fl1 with
  | nx => exact fun σ' H' F' as' x env' hp' => ⟨ρ1, m1, F', as', fl, ρ', m', env', hp', hf, q.ext x⟩
  | bk => cases hf; exact q
  | ct => cases hf; exact q
  | rt e => cases hf; exact q
theorem r_cons (h1 : PS X st (tS X.K f)) (h2 : PSs X rest (tS X.K g)) : PSs X (st :: rest) (tS X.K (sSeq f g)) := PSs_imp (pss_cons h1 h2) seq_read
theorem r_one (h1 : PS X st (tS X.K f)) : PSs X [st] (tS X.K f) := pss_one h1
theorem r_ifS {a b : List Stmt} (hc : PT X c (tT X.K ft)) (ha : PSs X a (tS X.K f)) (hb : PSs X b (tS X.K g)) : PS X (.If c a b pos) (tS X.K (sIf ft f g)) := PS_imp (ps_if hc ha hb) fun D σ H h => by
  obtain ⟨ρ, m, F, as, fl, ρ', m', env, hp, hf, q⟩ := h
  obtain ⟨⟨b, m1⟩, h1, hf⟩ := bind2 hf
  refine tstep env hp h1 fun H1 F1 as1 x1 hp1 env1 => ?_
  cases b with
  | true => exact ⟨ρ, m1, F1, as1, fl, ρ', m', env1, hp1, hf, q.ext x1⟩
  | false => exact ⟨ρ, m1, F1, as1, fl, ρ', m', env1, hp1, hf, q.ext x1⟩
theorem asg_read {gt : TG} {tg : Tg} {vs : List Nat} (hg : TgOk X.K gt tg vs) : ∀ D σ H, tS X.K (sAsg fe tg) D σ H → tAsg (tE X.K fe) gt D σ H := by
  intro D σ H h
  obtain ⟨ρ, m, F, as, fl, ρ', m', env, hp, hf, q⟩ := h
  obtain ⟨⟨e, m1⟩, h1, hf⟩ := bind2 hf
  obtain ⟨ρ1, h2, hf⟩ := bind2 hf
  cases hf
  exact estep env hp h1 fun v H1 F1 as1 x1 hp1 env1 r1 => hg.run env1 hp1 r1 h2 fun σ' env2 _ _ => q σ' H1 F1 as1 x1 env2 hp1
theorem r_expr (he : PE X e (tE X.K fe)) (hs : swapsWith e none pos.line X.env = pure false := by rfl) : PS X (.Expr e pos) (tS X.K (sExp fe)) := PS_imp (ps_expr he hs) fun D σ H h => by
  obtain ⟨ρ, m, F, as, fl, ρ', m', env, hp, hf, q⟩ := h
  obtain ⟨⟨e, m1⟩, h1, hf⟩ := bind2 hf
  cases hf
  exact estep env hp h1 fun v H1 F1 as1 x1 hp1 env1 r1 => q σ H1 F1 as1 x1 env1 hp1
theorem r_ret (he : PE X e (tE X.K fe)) : PS X (.Return (some e) pos) (tS X.K (sRet fe)) := PS_imp (ps_ret he) fun D σ H h => by
  obtain ⟨ρ, m, F, as, fl, ρ', m', env, hp, hf, q⟩ := h
  obtain ⟨⟨e, m1⟩, h1, hf⟩ := bind2 hf
  cases hf
  exact estep env hp h1 fun v H1 F1 as1 x1 hp1 env1 r1 => q v H1 F1 as1 x1 r1 hp1
theorem r_retN : PS X (.Return none pos) (tS X.K sRetN) := PS_imp ps_retN fun D σ H h => by
  obtain ⟨ρ, m, F, as, fl, ρ', m', env, hp, hf, q⟩ := h
  cases hf
  exact q .non H F as .refl (.d .non) hp
theorem r_brk : PS X (.Break pos) (tS X.K sBrk) := PS_imp ps_break fun D σ H h => by
  obtain ⟨ρ, m, F, as, fl, ρ', m', env, hp, hf, q⟩ := h
  cases hf
  exact q σ H F as .refl env hp
theorem r_cnt : PS X (.Continue pos) (tS X.K sCnt) := PS_imp ps_continue fun D σ H h => by
  obtain ⟨ρ, m, F, as, fl, ρ', m', env, hp, hf, q⟩ := h
  cases hf
  exact q σ H F as .refl env hp
theorem for_read {it : Ix} {gt : TG} {tg : Tg} {vs : List Nat} {body : Sx} (hg : TgOk X.K gt tg vs) : ∀ D σ H, tS X.K (sFor it tg body) D σ H → tFor (tI X.K it) gt (tS X.K body) D σ H := by
  intro D σ H h
  obtain ⟨ρ, m, F, as, fl, ρ', m', env, hp, hf, q⟩ := h
  obtain ⟨⟨xs, m1⟩, h1, hf⟩ := bind2 hf
  refine ⟨ρ, m, F, as, xs, m1, env, hp, h1, fun J H1 F1 as1 x1 hp1 wk => ?_⟩
  have q1 := q.ext x1
  refine ⟨fun i n σ2 H2 => n = xs.length - i ∧ i ≤ xs.length ∧ ∃ F2 as2 ρ2 m2, Ext F1 F2 as1 as2 ∧ EnvOk X.K F2 as2 σ2 ρ2 ∧ HeapOk X.K H2 F2 as2 m2 ∧ forL tg body (xs.drop i) ρ2 m2 = some (fl, ρ', m'),
    ⟨_, rfl, Nat.zero_le _, F1, as1, ρ, m1, .refl, env.ext x1, hp1, hf⟩, ?_⟩
  rintro i n σ2 H2 ⟨rfl, hi, F2, as2, ρ2, m2, x2, env2, hp2, hl⟩
  obtain ⟨w1, w2⟩ := wk F2 as2 m2 H2 x2.1 hp2 i
  by_cases hlt : i < xs.length
  · obtain ⟨hgo, hy⟩ := w2 xs[i] (List.getElem?_eq_getElem hlt)
    refine .inr ⟨hgo, fun σ3 H3 => ∃ F3 as3 ρ3 m3, Ext F1 F3 as1 as3 ∧ EnvOk X.K F3 as3 σ3 ρ3 ∧ HeapOk X.K H3 F3 as3 m3 ∧ forL tg body (xs.drop (i + 1)) ρ3 m3 = some (fl, ρ', m'),
      fun σ3 H3 h => ⟨_, by omega, rfl, hlt, h⟩, fun x H' hx => ?_⟩
    obtain ⟨F3, gr, rx⟩ := hy x H' hx
    have hp3 := hp2.grow gr
    have x3 := hp2.ext gr
    rw [List.drop_eq_getElem_cons hlt] at hl
    obtain ⟨ρ3, h3, hl⟩ := bind2 hl
    obtain ⟨⟨fl4, ρ4, m4⟩, h4, hl⟩ := bind2 hl
    refine hg.run (env2.ext x3) hp3 (.d rx) h3 fun σ' env4 _ _ => ⟨ρ3, m2, F3, as2, fl4, ρ4, m4, env4, hp3, h4, ?_⟩
    have x23 := x2.trans x3
    cases fl4 with
    | nx => exact fun σ5 H5 F5 as5 x5 env5 hp5 => ⟨F5, as5, ρ4, m4, x23.trans x5, env5, hp5, hl⟩
    | ct => exact fun σ5 H5 F5 as5 x5 env5 hp5 => ⟨F5, as5, ρ4, m4, x23.trans x5, env5, hp5, hl⟩
    | bk =>
      cases hl
      exact fun σ5 H5 F5 as5 x5 env5 hp5 => q1 σ5 H5 F5 as5 (x23.trans x5) env5 hp5
    | rt e =>
      cases hl
      exact fun v H5 F5 as5 x5 r5 hp5 => q1 v H5 F5 as5 (x23.trans x5) r5 hp5
  · have e : i = xs.length := by omega
    subst e
    rw [List.drop_length] at hl
    cases hl
    exact .inl ⟨w1 (Nat.le_refl _), q1 σ2 H2 F2 as2 x2 env2 hp2⟩
theorem while_read {N : Nat} {body : Sx} : ∀ D σ H, tS X.K (sWhile N ft body) D σ H → tWhile (tT X.K ft) (tS X.K body) D σ H := by
  intro D σ H h
  obtain ⟨ρ, m, F, as, fl, ρ', m', env, hp, hf, q⟩ := h
  refine ⟨fun n σ2 H2 => ∃ F2 as2 ρ2 m2, Ext F F2 as as2 ∧ EnvOk X.K F2 as2 σ2 ρ2 ∧ HeapOk X.K H2 F2 as2 m2 ∧ whileF ft body n ρ2 m2 = some (fl, ρ', m'), ⟨N, F, as, ρ, m, .refl, env, hp, hf⟩, ?_⟩
  rintro n σ2 H2 ⟨F2, as2, ρ2, m2, x2, env2, hp2, hl⟩
  cases n with
  | zero => cases hl
  | succ n =>
    obtain ⟨⟨b, m3⟩, h3, hl⟩ := bind2 hl
    refine tstep env2 hp2 h3 fun H3 F3 as3 x3 hp3 env3 => ?_
    have x23 := x2.trans x3
    cases b with
    | false =>
      cases hl
      exact q σ2 H3 F3 as3 x23 env3 hp3
    | true =>
      obtain ⟨⟨fl4, ρ4, m4⟩, h4, hl⟩ := bind2 hl
      refine ⟨fun σ5 H5 => ∃ F5 as5 ρ5 m5, Ext F F5 as as5 ∧ EnvOk X.K F5 as5 σ5 ρ5 ∧ HeapOk X.K H5 F5 as5 m5 ∧ whileF ft body n ρ5 m5 = some (fl, ρ', m'), fun σ5 H5 h => ⟨n, Nat.lt_succ_self n, h⟩, ρ2, m3, F3, as3, fl4, ρ4, m4, env3, hp3, h4, ?_⟩
      cases fl4 with
      | nx => exact fun σ5 H5 F5 as5 x5 env5 hp5 => ⟨F5, as5, ρ4, m4, x23.trans x5, env5, hp5, hl⟩
      | ct => exact fun σ5 H5 F5 as5 x5 env5 hp5 => ⟨F5, as5, ρ4, m4, x23.trans x5, env5, hp5, hl⟩
      | bk =>
        cases hl
        exact fun σ5 H5 F5 as5 x5 env5 hp5 => q σ5 H5 F5 as5 (x23.trans x5) env5 hp5
      | rt e =>
        cases hl
        exact fun v H5 F5 as5 x5 r5 hp5 => q v H5 F5 as5 (x23.trans x5) r5 hp5
end
end PL
/-! PL5: functions, calls, built-ins. -/
namespace PL
open PySem PySem.Spec L2
set_option autoImplicit false

abbrev Fx := List E → Store → Option (E × Store)
/-- a callee's cells are dropped; a list or dict of its own that it hands back is data from now on -/
def fin (n : Nat) (m' : Store) : E → Option (E × Store)
  | .d x => some (.d x, m'.take n)
  | .own c => if c < n then some (.own c, m'.take n) else (look m' (.own c)).map fun d => (.d d, m'.take n)
  | .deal row c t => if c < n then some (.deal row c t, m'.take n) else (m'[c]?).map fun o => (.deal row n t, m'.take n ++ [o])
def fnD (n k : Nat) (body : Sx) : Fx := fun es m => if es.length = n then (body (es.map some ++ List.replicate k none) m).bind fun r => match r.1 with
  | .rt e => fin m.length r.2.2 e
  | .nx => some (.d .non, r.2.2.take m.length)
  | _ => none else none
def spD (K : PySem.W.Frag) (n : Nat) (f : Fx) : Sp := fun vs H Q _ => vs.length = n ∧ ∃ es m F as e m', RepEs K F as vs es ∧ HeapOk K H F as m ∧ f es m = some (e, m') ∧
  ∀ v H' F' as', Ext F F' as as' → HeapOk K H' F' as' m' → RepE K F' as' v e → Q v H'

section
variable {K : PySem.W.Frag} {F F' H H' : Hp} {as as' : Cs} {m m' : Store} {c0 : List Addr} {v : V} {e : E}
theorem HeapOk.take (hp : HeapOk K H F as m) (pc : c0 <+: as.c) : HeapOk K H F ⟨c0, as.g⟩ (m.take c0.length) := by
  obtain ⟨t, et⟩ := pc
  have hl := hp.len
  rw [← et, List.length_append] at hl
  have get : ∀ (i : Nat) (a : Addr), c0[i]? = some a → as.c[i]? = some a := fun i a q => by
    rw [← et, List.getElem?_append_left (List.getElem?_eq_some_iff.mp q).1]; exact q
  have mem : ∀ a ∈ c0, a ∈ as.c := fun a q => by rw [← et]; exact List.mem_append_left _ q
  refine ⟨hp.sub, by show c0.length = _; rw [List.length_take]; omega, ?_, fun a q => hp.there a (mem a q), fun i a o q1 q2 => ?_, fun p hq => ?_, hp.pnd⟩
  · have nd := hp.nd
    rw [← et] at nd
    exact (List.nodup_append.mp nd).1
  · have hi : i < c0.length := (List.getElem?_eq_some_iff.mp q1).1
    rw [List.getElem?_take_of_lt hi] at q2
    exact hp.cell i a o (get i a q1) q2
  · obtain ⟨p1, p2, p3⟩ := hp.prot p hq
    exact ⟨p1, p2, fun z => p3 (mem _ z)⟩
theorem fin_ok (hp : HeapOk K H F as m) (pc : c0 <+: as.c) (r : RepE K F as v e) {e2 : E} {m2 : Store} (h : fin c0.length m e = some (e2, m2)) :
    ∃ F2 c2, Same F F2 ∧ c0 <+: c2 ∧ HeapOk K H F2 ⟨c2, as.g⟩ m2 ∧ RepE K F2 ⟨c2, as.g⟩ v e2 := by
  have get : ∀ (i : Nat) (a : Addr), i < c0.length → as.c[i]? = some a → c0[i]? = some a := fun i a hi q => by
    obtain ⟨t, et⟩ := pc
    rw [← et, List.getElem?_append_left hi] at q
    exact q
  cases r with
  | d r => cases h; exact ⟨F, c0, Same.refl F, List.prefix_refl _, hp.take pc, .d r⟩
  | @own a c r =>
    simp only [fin] at h
    split at h
    · rename_i hc
      cases h
      exact ⟨F, c0, Same.refl F, List.prefix_refl _, hp.take pc, .own (get c a hc r)⟩
    · rename_i hc
      obtain ⟨d, h1, h2⟩ := Option.map_eq_some_iff.mp h
      cases h2
      have hz : frzE m (.own c) = some (d, m.set c (.frz d)) := by
        show (look m (.own c)).bind _ = _
        rw [h1]; rfl
      obtain ⟨F2, x2, hp2, r2⟩ := frzE_ok hp (.own r) hz
      refine ⟨F2, c0, x2.1, List.prefix_refl _, ?_, .d r2⟩
      have q := hp2.take pc
      rw [List.take_set_of_le (by omega)] at q
      exact q
  | @deal a r ca row c t h1 h2 z h3 =>
    simp only [fin] at h
    split at h
    · rename_i hc
      cases h
      exact ⟨F, c0, Same.refl F, List.prefix_refl _, hp.take pc, .deal h1 h2 z (get c ca hc h3)⟩
    · rename_i hc
      obtain ⟨o, e1, e2⟩ := Option.map_eq_some_iff.mp h
      cases e2
      have ht := hp.take pc
      have hl : c0.length = (m.take c0.length).length := ht.len
      have nin : ca ∉ c0 := fun z => by
        obtain ⟨i, hi, ei⟩ := List.getElem_of_mem z
        have q1 : as.c[i]? = some ca := by
          obtain ⟨t, et⟩ := pc
          rw [← et, List.getElem?_append_left hi, List.getElem?_eq_getElem hi, ei]
        exact hc (by rw [← nd_ix hp.nd q1 h3]; exact hi)
      refine ⟨F, c0 ++ [ca], Same.refl F, pre_snoc _ _, ⟨ht.sub, by show (c0 ++ [ca]).length = _; rw [List.length_append, List.length_append, ← hl]; rfl, ?_, fun a q => ?_, fun i b u q1 q2 => ?_, fun p hq => ?_, ht.pnd⟩, .deal h1 h2 z ?_⟩
      · show (c0 ++ [ca]).Nodup
        rw [List.nodup_append]
        refine ⟨ht.nd, by simp, fun a ha b hb => ?_⟩
        have e : b = ca := by simpa using hb
        rw [e]
        exact fun z => nin (by rw [← z]; exact ha)
      · rcases List.mem_append.mp q with q | q
        · exact ht.there a q
        · have e : a = ca := by simpa using q
          rw [e]
          exact hp.there ca (List.mem_of_getElem? h3)
      · have q1 : (c0 ++ [ca])[i]? = some b := q1
        by_cases hi : i < c0.length
        · rw [List.getElem?_append_left hi] at q1
          rw [List.getElem?_append_left (by omega)] at q2
          exact ht.cell i b u q1 q2
        · rw [List.getElem?_append_right (by omega)] at q1
          rw [List.getElem?_append_right (by omega), ← hl] at q2
          cases k : i - c0.length with
          | zero =>
            rw [k] at q1 q2
            simp at q1 q2
            subst q1 q2
            exact hp.cell c ca o h3 e1
          | succ j => rw [k] at q1; simp at q1
      · obtain ⟨p1, p2, p3⟩ := hp.prot p hq
        refine ⟨p1, p2, fun z => ?_⟩
        rcases List.mem_append.mp z with z | z
        · exact (ht.prot p hq).2.2 z
        · have e : p.1 = ca := by simpa using z
          exact p3 (by rw [e]; exact List.mem_of_getElem? h3)
      · show (c0 ++ [ca])[c0.length]? = some ca
        simp
end

/-! ### defs -/
theorem RepEs.length {K : PySem.W.Frag} {F : Hp} {as : Cs} : ∀ {vs : List V} {es : List E}, RepEs K F as vs es → vs.length = es.length
  | _, _, .nil => rfl
  | _, _, .cons _ b => congrArg (· + 1) (RepEs.length b)
theorem RepEs.get {K : PySem.W.Frag} {F : Hp} {as : Cs} : ∀ {vs : List V} {es : List E} {i : Nat} {e : E}, RepEs K F as vs es → es[i]? = some e → ∃ v, vs[i]? = some v ∧ RepE K F as v e
  | _, _, _, _, .nil, h => by simp at h
  | _, _, 0, _, .cons a _, h => by simp at h; subst h; exact ⟨_, rfl, a⟩
  | _, _, i + 1, _, .cons _ b, h => by
    obtain ⟨v, h1, h2⟩ := RepEs.get (i := i) b (by simpa using h)
    exact ⟨v, by simpa using h1, h2⟩
theorem env_start {K : PySem.W.Frag} {F : Hp} {as : Cs} {vs : List V} {es : List E} {N : List Str} {k : Nat} (r : RepEs K F as vs es) (hN : N.length = es.length + k) : EnvOk K F as (start N vs) (es.map some ++ List.replicate k none) := by
  have hl := r.length
  refine ⟨?_, fun i e h => ?_⟩
  · show (vs.map some ++ List.replicate (N.length - vs.length) none).length = _
    rw [List.length_append, List.length_append, List.length_map, List.length_map, List.length_replicate, List.length_replicate]
    omega
  · by_cases hi : i < es.length
    · rw [List.getElem?_append_left (by rw [List.length_map]; exact hi), List.getElem?_map] at h
      obtain ⟨e', h1, h2⟩ := Option.map_eq_some_iff.mp h
      cases h2
      obtain ⟨v, h3, h4⟩ := r.get h1
      refine ⟨v, ?_, h4⟩
      show (vs.map some ++ List.replicate (N.length - vs.length) none)[i]? = _
      rw [List.getElem?_append_left (by rw [List.length_map]; omega), List.getElem?_map, h3]
      rfl
    · rw [List.getElem?_append_right (by rw [List.length_map]; omega), List.getElem?_replicate] at h
      split at h <;> cases h
section
variable {P : Program} {w : World} {K : PySem.W.Frag} {mg : Str → Option Value} {base : Heap}
theorem fn_ok {x qual : Str} {st : Stmt} {f : Addr} {fd : FuncData} {N ps : List Str} {lev n k : Nat} {body : Sx} (F : Fun K x qual st f fd) (S : FnScope N ps (defScope st)) (hn : ps.length = n) (hN : N.length = n + k)
    (hb : ∀ (cdv : Value) (A : Around) (outer : List PySem.Env) (s : Shared) (H : Hp) (E : XK), Room lev (A.deeper (PyProof.Rows.envOfC qual (defScope st) s.heap.objs.size f cdv)) →
      PSs (cxOf CX0 P w K mg base N qual (defScope st) f cdv A outer s H E).nox (defBody st) (tS K body)) :
    FnOk P w K mg base CX0 (lev + 1) f fd ps (spD K n (fnD n k body)) := by
  refine F.ok S (fun vs H Q E h => by rw [hn]; exact h.1) fun cdv A outer s H vs Q E hr h => ⟨_, hb cdv A outer s H E hr, ?_⟩
  obtain ⟨hl, es, m, F0, as, e, m', r, hp, hf, q⟩ := h
  unfold fnD at hf
  split at hf
  · rename_i hes
    obtain ⟨⟨fl, ρ', m1⟩, h1, hf⟩ := bind2 hf
    refine ⟨_, m, F0, as, fl, ρ', m1, env_start r (by rw [hN, hes]), hp, h1, ?_⟩
    have hml : as.c.length = m.length := hp.len
    cases fl with
    | nx =>
      cases hf
      intro σ' H' F' as' x env' hp'
      have q2 := hp'.take x.2.1
      rw [hml] at q2
      obtain ⟨c', g'⟩ := as'
      have eg : g' = as.g := x.2.2
      subst eg
      exact q .non H' F' as ⟨x.1, List.prefix_refl _, rfl⟩ q2 (.d .non)
    | rt e1 =>
      intro v H' F' as' x r' hp'
      have hf : fin m.length m1 e1 = some (e, m') := hf
      rw [← hml] at hf
      obtain ⟨F2, c2, s2, p2, hp2, r2⟩ := fin_ok hp' x.2.1 r' hf
      exact q v H' F2 ⟨c2, as'.g⟩ ⟨x.1.trans s2, p2, x.2.2⟩ hp2 r2
    | bk => cases hf
    | ct => cases hf
  · cases hf
/-- a def of the module at its name -/
structure Fn (P : Program) (w : World) (K : PySem.W.Frag) (mg : Str → Option Value) (base : Heap) (lev : Nat) (x : Str) (n : Nat) (f : Fx) : Prop where
  ex : ∃ (a : Addr) (fd : FuncData) (ps : List Str), mg x = some (.ref a) ∧ PySem.W.keepIn K (.ref a) = true ∧ Binds K fd ps [] ∧ FnOk P w K mg base CX0 lev a fd ps (spD K n f)
theorem Fn.mono {lev lev' n : Nat} {x : Str} {f : Fx} (h : Fn P w K mg base lev x n f) (l : lev ≤ lev') : Fn P w K mg base lev' x n f := by
  obtain ⟨a, fd, ps, h1, h2, h3, h4⟩ := h.ex
  exact ⟨a, fd, ps, h1, h2, h3, h4.mono l⟩
/-- what the top has of a def -/
structure At (K : PySem.W.Frag) (mg : Str → Option Value) (x : Str) (ps : List Str) (st : Stmt) (a : Addr) (fd : FuncData) : Prop where
  F : Fun K x x st a fd
  g : mg x = some (.ref a)
  b : Binds K fd ps []
theorem fn_at {x : Str} {st : Stmt} {a : Addr} {fd : FuncData} {N ps : List Str} {lev n k : Nat} {body : Sx} (T : At K mg x ps st a fd) (S : FnScope N ps (defScope st)) (hn : ps.length = n) (hN : N.length = n + k)
    (hb : ∀ (cdv : Value) (A : Around) (outer : List PySem.Env) (s : Shared) (H : Hp) (E : XK), Room lev (A.deeper (PyProof.Rows.envOfC x (defScope st) s.heap.objs.size a cdv)) →
      PSs (cxOf CX0 P w K mg base N x (defScope st) a cdv A outer s H E).nox (defBody st) (tS K body)) : Fn P w K mg base (lev + 1) x n (fnD n k body) :=
  ⟨a, fd, ps, T.g, T.F.kp, T.b, fn_ok T.F S hn hN hb⟩
/-- nothing is promised -/
def fNone : Fx := fun _ _ => none
theorem fn_none {x : Str} {st : Stmt} {a : Addr} {fd : FuncData} {ps : List Str} {lev n : Nat} (T : At K mg x ps st a fd) : Fn P w K mg base lev x n fNone :=
  ⟨a, fd, ps, T.g, T.F.kp, T.b, ⟨fun vs H Q E h => by (obtain ⟨_, es, m, F, as, e, m', _, _, h, _⟩ := h; cases h), fun A outer s H args us vs Q E _ _ _ _ h => by (obtain ⟨_, es, m, F, as, e, m', _, _, h, _⟩ := h; cases h)⟩⟩
end
def eCall (f : Fx) (g : Ax) : Ex := fun ρ m => (g ρ m).bind fun p => f p.1 p.2
section
variable {X : Cx} {lev n : Nat} {x : Str} {f : Fx} {g : Ax} {e : Expr} {es : List Expr} {p pos : Pos}
theorem r_call (G : Fn X.prog X.w X.K X.mg X.base lev x n f) (hr : Room lev X.A) (hg : Gl X x) (hn : ∀ ρ m r, g ρ m = some r → r.1.length = n) (ha : PA X (e :: es) (tA X.K g)) (hdb : (x == ("__debug__" : Str)) = false := by decide) (he : starEach (e :: es) X.env = (false, eval e X.env) :: starEach es X.env := by rfl)
    (hpl : (backTo pos (starEach es X.env)).any (·.1) = false := by rfl) : PE X (.Call (.Name x p) (e :: es) [] pos) (tE X.K (eCall f g)) := by
  obtain ⟨a, fd, ps, h1, h2, h3, h4⟩ := G.ex
  refine PE_imp (pe_call h4 hr hg h1 h2 h3 .nil pass0 ha hdb he hpl) fun σ H Q h => ?_
  obtain ⟨ρ, m, F, as, e, m', env, hp, hf, q⟩ := h
  obtain ⟨⟨es1, m1⟩, q1, hf⟩ := bind2 hf
  refine ⟨ρ, m, F, as, es1, m1, env, hp, q1, fun vs H1 F1 as1 x1 hp1 r1 => ?_⟩
  show spD X.K n f (vs ++ []) H1 Q E0
  rw [List.append_nil]
  exact ⟨by rw [r1.length]; exact hn _ _ _ q1, es1, m1, F1, as1, e, m', r1, hp1, hf, fun v H' F' as' x2 hp2 r2 => q v H' F' as' (x1.trans x2) hp2 r2⟩
theorem aNil_len : ∀ ρ m r, aNil ρ m = some r → r.1.length = 0 := fun ρ m r h => by cases h; rfl
theorem aCons_len {n : Nat} {f : Ex} {g : Ax} (h : ∀ ρ m r, g ρ m = some r → r.1.length = n) : ∀ ρ m r, aCons f g ρ m = some r → r.1.length = n + 1 := fun ρ m r q => by
  obtain ⟨p, h1, q⟩ := bind2 q
  obtain ⟨s, h2, q⟩ := bind2 q
  cases q
  exact congrArg (· + 1) (h _ _ _ h2)
end

/-! ### built-ins of one value -/
def D1Ok (K : PySem.W.Frag) (r : List V → Hp → VK → Prop) (op : D → Option D) : Prop := ∀ x H F dx d Q, FSub F H → RepL K H F x dx → op dx = some d →
  (∀ v H' F', Grow H F H' F' → Rep K F' v d → Q v H') → r [x] H Q
def eUn (op : D → Option D) (f : Ex) : Ex := fun ρ m => (f ρ m).bind fun p => (look p.2 p.1).bind fun d => (op d).bind fun r => some (.d r, p.2)
def eBi (op : D → D → Option D) (f g : Ex) : Ex := eBin (g2 op) f g
section
variable {X : Cx} {x : Str} {id T : String} {r : List V → Hp → VK → Prop} {op : D → Option D} {op2 : D → D → Option D} {e e2 : Expr} {f f2 : Ex} {p pos : Pos}
theorem un_read {K : PySem.W.Frag} (hd : D1Ok K r op) : ∀ σ H Q, tE K (eUn op f) σ H Q → tCB r (tCons (tE K f) tNil) σ H Q := by
  intro σ H Q h
  obtain ⟨ρ, m, F, as, e, m', env, hp, hf, q⟩ := h
  obtain ⟨⟨e1, m1⟩, h1, hf⟩ := bind2 hf
  obtain ⟨d, h2, hf⟩ := bind2 hf
  obtain ⟨d', h3, hf⟩ := bind2 hf
  cases hf
  refine estep env hp h1 fun v H1 F1 as1 x1 hp1 env1 r1 => ?_
  exact hd v H1 F1 d d' Q hp1.sub (look_rep hp1 r1 h2) h3 fun w H' F' g rw' => q w H' F' as1 (x1.trans (hp1.ext g)) (hp1.grow g) (.d rw')
theorem r_b1 (hc : CallR X (.builtin id) r) (hd : D1Ok X.K r op) (hg : Gl X x) (hm : X.mg x = none) (hv : bootBuiltins x = some (.builtin id)) (he : PE X e (tE X.K f)) (hn : x ≠ "__name__" := by decide) (hdb : (x == ("__debug__" : Str)) = false := by decide)
    (hs : starEach [e] X.env = (false, eval e X.env) :: starEach [] X.env := by rfl) (hpl : (backTo pos (starEach [] X.env)).any (·.1) = false := by rfl) : PE X (.Call (.Name x p) [e] [] pos) (tE X.K (eUn op f)) :=
  PE_imp (pe_callB hc hg hm hv (pa_cons he pa_nil hs) hn hdb hs hpl) (un_read hd)
theorem r_t1 (hc : CallR X (.type T) r) (hd : D1Ok X.K r op) (hg : Gl X x) (hm : X.mg x = none) (hv : bootBuiltins x = some (.type T)) (he : PE X e (tE X.K f)) (hn : x ≠ "__name__" := by decide) (hdb : (x == ("__debug__" : Str)) = false := by decide)
    (hs : starEach [e] X.env = (false, eval e X.env) :: starEach [] X.env := by rfl) (hpl : (backTo pos (starEach [] X.env)).any (·.1) = false := by rfl) : PE X (.Call (.Name x p) [e] [] pos) (tE X.K (eUn op f)) :=
  PE_imp (pe_callTy hc hg hm hv (pa_cons he pa_nil hs) hn hdb hs hpl) (un_read hd)
theorem bi_read {K : PySem.W.Frag} (hd : D2Ok K (fun x y => r [x, y]) op2) : ∀ σ H Q, tE K (eBi op2 f f2) σ H Q → tCB r (tCons (tE K f) (tCons (tE K f2) tNil)) σ H Q := by
  intro σ H Q h
  obtain ⟨ρ, m, F, as, e, m', env, hp, hf, q⟩ := h
  obtain ⟨⟨e1, m1⟩, h1, hf⟩ := bind2 hf
  obtain ⟨⟨e2, m2⟩, h2, hf⟩ := bind2 hf
  refine estep env hp h1 fun v H1 F1 as1 x1 hp1 env1 r1 => estep env1 hp1 h2 fun w H2 F2 as2 x2 hp2 env2 r2 => ?_
  exact hd.r2 v w H2 F2 as2 m2 e1 e2 e m' Q hp2 (r1.ext x2) r2 hf fun v H' F' as' x3 hp3 r3 => q v H' F' as' (x1.trans (x2.trans x3)) hp3 r3
theorem r_b2 (hc : CallR X (.builtin id) r) (hd : D2Ok X.K (fun x y => r [x, y]) op2) (hg : Gl X x) (hm : X.mg x = none) (hv : bootBuiltins x = some (.builtin id)) (he : PE X e (tE X.K f)) (he2 : PE X e2 (tE X.K f2)) (hn : x ≠ "__name__" := by decide) (hdb : (x == ("__debug__" : Str)) = false := by decide)
    (hs : starEach [e, e2] X.env = (false, eval e X.env) :: starEach [e2] X.env := by rfl) (hs2 : starEach [e2] X.env = (false, eval e2 X.env) :: starEach [] X.env := by rfl) (hpl : (backTo pos (starEach [e2] X.env)).any (·.1) = false := by rfl) : PE X (.Call (.Name x p) [e, e2] [] pos) (tE X.K (eBi op2 f f2)) :=
  PE_imp (pe_callB hc hg hm hv (pa_cons he (pa_cons he2 pa_nil hs2) hs) hn hdb hs hpl) (bi_read hd)
/-- -n -/
def opNeg : D → Option D
  | .int i => some (.int (-i))
  | _ => none
theorem r_neg {a : Expr} {fa : Ex} (ha : PE X a (tE X.K fa)) : PE X (.UnaryOp .USub a pos) (tE X.K (eUn opNeg fa)) := PE_imp (pe_un un_neg ha) fun σ H Q h => by
  obtain ⟨ρ, m, F, as, e, m', env, hp, hf, q⟩ := h
  obtain ⟨⟨e1, m1⟩, h1, hf⟩ := bind2 hf
  obtain ⟨d, h2, hf⟩ := bind2 hf
  obtain ⟨d', h3, hf⟩ := bind2 hf
  cases hf
  refine estep env hp h1 fun v H1 F1 as1 x1 hp1 env1 r1 => ?_
  unfold opNeg at h3
  split at h3
  · cases h3
    exact ⟨_, (look_rep hp1 r1 h2).int, q _ H1 F1 as1 x1 hp1 (.d .int)⟩
  · cases h3
end
/-! #### len -/
def opLen : D → Option D
  | .lst xs => some (.int xs.length)
  | .tup xs => some (.int xs.length)
  | .scr xs => some (.int xs.length)
  | .dic xs => some (.int xs.length)
  | .str x => if x.length ≤ big then some (.int x.length) else none
  | _ => none
theorem KReps.length {K : PySem.W.Frag} {F : Hp} : ∀ {vs : List (Key × V)} {ds : List (Key × D)}, KReps K F vs ds → vs.length = ds.length
  | _, _, .nil => rfl
  | _, _, .cons _ b => congrArg (· + 1) (KReps.length b)
section
variable {X : Cx}
theorem call_lenR : CallR X (.builtin "len") (fun xs H Q => ∃ a kvs, xs = [V.ref a] ∧ Rd H a (.dK kvs) ∧ Q (.int kvs.length) H) := by
  intro pins s σ H xs us Q I r h
  obtain ⟨a, kvs, rfl, ha, q⟩ := h
  obtain ⟨u, rfl, ru⟩ := vals1 r
  cases ru
  exact d_len I ha fun t s' I' => ⟨.int kvs.length, H, I', ⟨t, rfl⟩, q⟩
def rLenA (K : PySem.W.Frag) : List V → Hp → VK → Prop := fun xs H Q => (∃ p ys, xs = [.ref p] ∧ (SqL K H p ys ∨ SqT K H p ys) ∧ Q (.int ys.length) H) ∨ (∃ z : Str, xs = [.str z] ∧ z.length ≤ sizeLine ∧ Q (.int z.length) H) ∨ ∃ a kvs, xs = [V.ref a] ∧ Rd H a (.dK kvs) ∧ Q (.int kvs.length) H
theorem call_lenA : CallR X (.builtin "len") (rLenA X.K) := call_len_seq.or (call_len_str.or call_lenR)
end
theorem d_len1 {K : PySem.W.Frag} : D1Ok K (rLenA K) opLen := by
  intro x H F dx d Q s rx hd q
  unfold opLen at hd
  split at hd
  · cases hd
    obtain ⟨a, vs, rfl, h1, z1, r1⟩ := rx.list s
    exact .inl ⟨a, vs, rfl, .inl (.of h1), by rw [r1.length]; exact q _ H F (.refl s) .int⟩
  · cases hd
    obtain ⟨a, vs, rfl, f1, h1, z1, r1⟩ := rx.tup s
    exact .inl ⟨a, vs, rfl, .inr (.of h1), by rw [r1.length]; exact q _ H F (.refl s) .int⟩
  · cases hd
    obtain ⟨a, rfl, h1⟩ := rx.scr s
    exact .inl ⟨a, _, rfl, .inl h1, by rw [List.length_map]; exact q _ H F (.refl s) .int⟩
  · cases hd
    obtain ⟨a, vs, rfl, h1, r1⟩ := rx.dict s
    exact .inr (.inr ⟨a, vs, rfl, h1, by rw [r1.length]; exact q _ H F (.refl s) .int⟩)
  · split at hd
    · rename_i z
      cases hd
      exact .inr (.inl ⟨_, by rw [rx.str], big_le z, q _ H F (.refl s) .int⟩)
    · cases hd
  · cases hd
/-! #### ints in a list -/
def intsOf : List D → Option (List Int)
  | [] => some []
  | .int i :: r => (intsOf r).map (i :: ·)
  | _ => none
theorem intsOf_eq : ∀ {ds : List D} {ns : List Int}, intsOf ds = some ns → ds = ns.map .int
  | [], _, h => by cases h; rfl
  | d :: r, ns, h => by
    cases d with
    | int i =>
      obtain ⟨ms, h1, rfl⟩ := Option.map_eq_some_iff.mp h
      rw [intsOf_eq h1]
      rfl
    | _ => cases h
theorem intsOf_map : ∀ ns : List Int, intsOf (ns.map .int) = some ns
  | [] => rfl
  | n :: ns => by
    show (intsOf (ns.map .int)).map (n :: ·) = _
    rw [intsOf_map ns]; rfl
def maxI : List Int → Option Int
  | [] => none
  | x :: xs => some (xs.foldl (fun a b => if a < b then b else a) x)
def minI : List Int → Option Int
  | [] => none
  | x :: xs => some (xs.foldl (fun a b => if b < a then b else a) x)
theorem foldmax : ∀ (xs : List Int) (x : Int), (xs.foldl (fun a b => if a < b then b else a) x = x ∨ xs.foldl (fun a b => if a < b then b else a) x ∈ xs) ∧ x ≤ xs.foldl (fun a b => if a < b then b else a) x ∧ ∀ y ∈ xs, y ≤ xs.foldl (fun a b => if a < b then b else a) x
  | [], x => ⟨.inl rfl, Int.le_refl _, fun y h => nomatch h⟩
  | b :: xs, x => by
    obtain ⟨h1, h2, h3⟩ := foldmax xs (if x < b then b else x)
    rw [List.foldl_cons]
    refine ⟨?_, ?_, fun y hy => ?_⟩
    · rcases h1 with h1 | h1
      · rw [h1]
        by_cases e : x < b
        · rw [if_pos e]; exact .inr List.mem_cons_self
        · rw [if_neg e]; exact .inl rfl
      · exact .inr (List.mem_cons_of_mem _ h1)
    · refine Int.le_trans ?_ h2
      split <;> omega
    · rcases List.mem_cons.mp hy with rfl | hy
      · refine Int.le_trans ?_ h2
        split <;> omega
      · exact h3 y hy
theorem foldmin : ∀ (xs : List Int) (x : Int), (xs.foldl (fun a b => if b < a then b else a) x = x ∨ xs.foldl (fun a b => if b < a then b else a) x ∈ xs) ∧ xs.foldl (fun a b => if b < a then b else a) x ≤ x ∧ ∀ y ∈ xs, xs.foldl (fun a b => if b < a then b else a) x ≤ y
  | [], x => ⟨.inl rfl, Int.le_refl _, fun y h => nomatch h⟩
  | b :: xs, x => by
    obtain ⟨h1, h2, h3⟩ := foldmin xs (if b < x then b else x)
    rw [List.foldl_cons]
    refine ⟨?_, ?_, fun y hy => ?_⟩
    · rcases h1 with h1 | h1
      · rw [h1]
        by_cases e : b < x
        · rw [if_pos e]; exact .inr List.mem_cons_self
        · rw [if_neg e]; exact .inl rfl
      · exact .inr (List.mem_cons_of_mem _ h1)
    · refine Int.le_trans h2 ?_
      split <;> omega
    · rcases List.mem_cons.mp hy with rfl | hy
      · refine Int.le_trans h2 ?_
        split <;> omega
      · exact h3 y hy
theorem maxI_spec {ns : List Int} {m : Int} (h : maxI ns = some m) : m ∈ ns ∧ ∀ y ∈ ns, y ≤ m := by
  cases ns with
  | nil => cases h
  | cons x xs =>
    cases h
    obtain ⟨h1, h2, h3⟩ := foldmax xs x
    refine ⟨?_, fun y hy => ?_⟩
    · rcases h1 with h1 | h1
      · rw [h1]; exact List.mem_cons_self
      · exact List.mem_cons_of_mem _ h1
    · rcases List.mem_cons.mp hy with rfl | hy
      · exact h2
      · exact h3 y hy
theorem minI_spec {ns : List Int} {m : Int} (h : minI ns = some m) : m ∈ ns ∧ ∀ y ∈ ns, m ≤ y := by
  cases ns with
  | nil => cases h
  | cons x xs =>
    cases h
    obtain ⟨h1, h2, h3⟩ := foldmin xs x
    refine ⟨?_, fun y hy => ?_⟩
    · rcases h1 with h1 | h1
      · rw [h1]; exact List.mem_cons_self
      · exact List.mem_cons_of_mem _ h1
    · rcases List.mem_cons.mp hy with rfl | hy
      · exact h2
      · exact h3 y hy
def opMax : D → Option D
  | .lst xs => (intsOf xs).bind fun ns => (maxI ns).map .int
  | _ => none
def opMin : D → Option D
  | .lst xs => (intsOf xs).bind fun ns => (minI ns).map .int
  | _ => none
def opSum : D → Option D
  | .lst xs => (intsOf xs).map fun ns => .int ns.sum
  | _ => none
section
variable {K : PySem.W.Frag}
theorem list_ints {H F : Hp} {x : V} {xs : List D} {ns : List Int} (s : FSub F H) (rx : RepL K H F x (.lst xs)) (h : intsOf xs = some ns) : ∃ a, x = .ref a ∧ SqL K H a (ns.map V.int) := by
  obtain ⟨a, vs, rfl, h1, z1, r1⟩ := rx.list s
  rw [intsOf_eq h] at r1
  rw [r1.ints] at h1
  exact ⟨a, rfl, .of h1⟩
theorem d_max1 : D1Ok K (rMax K) opMax := by
  intro x H F dx d Q s rx hd q
  unfold opMax at hd
  split at hd
  · obtain ⟨ns, h1, hd⟩ := bind2 hd
    obtain ⟨m, h2, rfl⟩ := Option.map_eq_some_iff.mp hd
    obtain ⟨a, rfl, hq⟩ := list_ints s rx h1
    obtain ⟨h3, h4⟩ := maxI_spec h2
    refine ⟨a, ns, rfl, hq, List.length_pos_of_mem h3, fun m' h5 h6 => ?_⟩
    have e : m' = m := Int.le_antisymm (h4 _ h5) (h6 _ h3)
    subst e
    exact q _ H F (.refl s) .int
  · cases hd
theorem d_min1 : D1Ok K (rMin K) opMin := by
  intro x H F dx d Q s rx hd q
  unfold opMin at hd
  split at hd
  · obtain ⟨ns, h1, hd⟩ := bind2 hd
    obtain ⟨m, h2, rfl⟩ := Option.map_eq_some_iff.mp hd
    obtain ⟨a, rfl, hq⟩ := list_ints s rx h1
    obtain ⟨h3, h4⟩ := minI_spec h2
    refine ⟨a, ns, rfl, hq, List.length_pos_of_mem h3, fun m' h5 h6 => ?_⟩
    have e : m' = m := Int.le_antisymm (h6 _ h3) (h4 _ h5)
    subst e
    exact q _ H F (.refl s) .int
  · cases hd
theorem d_sum1 : D1Ok K (rSum K) opSum := by
  intro x H F dx d Q s rx hd q
  unfold opSum at hd
  split at hd
  · obtain ⟨ns, h1, rfl⟩ := Option.map_eq_some_iff.mp hd
    obtain ⟨a, rfl, hq⟩ := list_ints s rx h1
    exact ⟨a, ns, rfl, hq, q _ H F (.refl s) .int⟩
  · cases hd
def opAbs : D → Option D
  | .int i => some (.int (if i < 0 then -i else i))
  | _ => none
theorem d_abs1 : D1Ok K (fun xs H Q => ∃ i, xs = [.int i] ∧ Q (.int (if i < 0 then -i else i)) H) opAbs := by
  intro x H F dx d Q s rx hd q
  unfold opAbs at hd
  split at hd
  · cases hd
    exact ⟨_, by rw [rx.int], q _ H F (.refl s) .int⟩
  · cases hd
def opInt : D → Option D
  | .int i => some (.int i)
  | _ => none
theorem d_int1 : D1Ok K (fun xs H Q => (∃ i, xs = [.int i] ∧ Q (.int i) H) ∨ ∃ k, xs = [.bl k] ∧ Q (.int (if k then 1 else 0)) H) opInt := by
  intro x H F dx d Q s rx hd q
  unfold opInt at hd
  split at hd
  · cases hd
    exact .inl ⟨_, by rw [rx.int], q _ H F (.refl s) .int⟩
  · cases hd
abbrev opMax2 := opI fun i j => some (.int (if j > i then j else i))
abbrev opMin2 := opI fun i j => some (.int (if j < i then j else i))
theorem d_max2 : D2Ok K (fun x y H Q => ∃ i j, [x, y] = [V.int i, V.int j] ∧ Q (.int (if j > i then j else i)) H) opMax2 := by
  intro x y H F dx dy d Q s rx ry hd q
  unfold opMax2 opI at hd
  split at hd
  · cases hd
    exact ⟨_, _, by rw [rx.int, ry.int], q _ H F (.refl s) .int⟩
  · cases hd
theorem d_min2 : D2Ok K (fun x y H Q => ∃ i j, [x, y] = [V.int i, V.int j] ∧ Q (.int (if j < i then j else i)) H) opMin2 := by
  intro x y H F dx dy d Q s rx ry hd q
  unfold opMin2 opI at hd
  split at hd
  · cases hd
    exact ⟨_, _, by rw [rx.int, ry.int], q _ H F (.refl s) .int⟩
  · cases hd
/-! #### tuple(x), list(x) -/
def opTuple : D → Option D
  | .lst xs => some (.tup xs)
  | .tup xs => some (.tup xs)
  | _ => none
def opList : D → Option D
  | .lst xs => some (.lst xs)
  | .tup xs => some (.lst xs)
  | _ => none
theorem d_tuple1 : D1Ok K (fun xs H Q => ∃ p ys, xs = [.ref p] ∧ ((SqL K H p ys ∧ ∀ l, H l = none → Q (.ref l) (upd H l (.tup ys))) ∨ (SqT K H p ys ∧ Q (.ref p) H))) opTuple := by
  intro x H F dx d Q s rx hd q
  unfold opTuple at hd
  split at hd
  · cases hd
    obtain ⟨a, vs, rfl, h1, z1, r1⟩ := rx.list s
    refine ⟨a, vs, rfl, .inl ⟨.of h1, fun l hl => ?_⟩⟩
    have g := Grow.laid (o := .tup vs) s hl
    exact q _ _ _ g (.tup upd_same z1 (r1.mono (g.same s)))
  · cases hd
    obtain ⟨a, vs, rfl, f1, h1, z1, r1⟩ := rx.tup s
    exact ⟨a, vs, rfl, .inr ⟨.of h1, q _ H F (.refl s) (.tup f1 z1 r1)⟩⟩
  · cases hd
def rListOf (K : PySem.W.Frag) : List V → Hp → VK → Prop := fun xs H Q => ∃ p ys, xs = [.ref p] ∧ (SqL K H p ys ∨ SqT K H p ys) ∧ ∀ l, H l = none → Q (.ref l) (upd H l (.lst ys))
theorem d_list1 : D1Ok K (rListOf K) opList := by
  intro x H F dx d Q s rx hd q
  unfold opList at hd
  split at hd
  · cases hd
    obtain ⟨a, vs, rfl, h1, z1, r1⟩ := rx.list s
    refine ⟨a, vs, rfl, .inl (.of h1), fun l hl => ?_⟩
    have g := Grow.laid (o := .lst vs) s hl
    exact q _ _ _ g (.lst upd_same z1 (r1.mono (g.same s)))
  · cases hd
    obtain ⟨a, vs, rfl, f1, h1, z1, r1⟩ := rx.tup s
    refine ⟨a, vs, rfl, .inr (.of h1), fun l hl => ?_⟩
    have g := Grow.laid (o := .lst vs) s hl
    exact q _ _ _ g (.lst upd_same z1 (r1.mono (g.same s)))
  · cases hd
end
/-- list(x) that is written later -/
def eListO (f : Ex) : Ex := fun ρ m => (f ρ m).bind fun p => (look p.2 p.1).bind fun d => (itemsOf d).bind fun xs => if xs.length ≤ big then some (.own p.2.length, p.2 ++ [.lst xs]) else none
section
variable {X : Cx} {x : Str} {e : Expr} {f : Ex} {p pos : Pos}
theorem r_listO (hg : Gl X x) (hm : X.mg x = none) (hv : bootBuiltins x = some (.type "list")) (he : PE X e (tE X.K f)) (hn : x ≠ "__name__" := by decide) (hdb : (x == ("__debug__" : Str)) = false := by decide)
    (hs : starEach [e] X.env = (false, eval e X.env) :: starEach [] X.env := by rfl) (hpl : (backTo pos (starEach [] X.env)).any (·.1) = false := by rfl) : PE X (.Call (.Name x p) [e] [] pos) (tE X.K (eListO f)) :=
  PE_imp (pe_callTy call_list_of hg hm hv (pa_cons he pa_nil hs) hn hdb hs hpl) fun σ H Q h => by
    obtain ⟨ρ, m, F, as, e, m', env, hp, hf, q⟩ := h
    obtain ⟨⟨e1, m1⟩, h1, hf⟩ := bind2 hf
    obtain ⟨d, h2, hf⟩ := bind2 hf
    obtain ⟨xs, h3, hf⟩ := bind2 hf
    split at hf
    · rename_i z
      cases hf
      refine estep env hp h1 fun v H1 F1 as1 x1 hp1 env1 r1 => ?_
      have rl := look_rep hp1 r1 h2
      have fin2 : ∀ a vs, v = .ref a → (SqL X.K H1 a vs ∨ SqT X.K H1 a vs) → Reps X.K F1 vs xs → (∃ p ys, [v] = [V.ref p] ∧ (SqL X.K H1 p ys ∨ SqT X.K H1 p ys) ∧ ∀ l, H1 l = none → Q (.ref l) (upd H1 l (.lst ys))) := fun a vs ev hq rr => by
        subst ev
        refine ⟨a, vs, rfl, hq, fun l hl => q _ _ F1 ⟨as1.c ++ [l], as1.g⟩ (x1.trans ⟨Same.refl _, pre_snoc _ _, rfl⟩) (hp1.cellNew hl ⟨hp1.sub.free hl, big_le z, vs, upd_same, rr⟩) (.own ?_)⟩
        rw [← hp1.len]
        simp
      cases d with
      | lst ys =>
        cases h3
        obtain ⟨a, vs, ev, g1, z1, rr⟩ := rl.list hp1.sub
        exact fin2 a vs ev (.inl (.of g1)) rr
      | tup ys =>
        cases h3
        obtain ⟨a, vs, ev, f1, g1, z1, rr⟩ := rl.tup hp1.sub
        exact fin2 a vs ev (.inr (.of g1)) rr
      | _ => cases h3
    · cases hf
end
end PL
/-! PL6: chains, isinstance, in, ==, slices, the methods of lists. -/
namespace PL
open PySem PySem.Spec L2
set_option autoImplicit false

/-! ### a op b op' c -/
def eChain (g g' : G2) (fa fb fc : Ex) : Ex := fun ρ m => (fa ρ m).bind fun p => (fb ρ p.2).bind fun q => (g p.1 q.1 q.2).bind fun r => match r.1 with
  | .d (.bl k) => if k = true then (fc ρ r.2).bind fun s => g' q.1 s.1 s.2 else some (.d (.bl false), r.2)
  | _ => none
section
variable {X : Cx} {pos : Pos} {a b c : Expr} {fa fb fc : Ex} {r r' : R2} {g g' : G2}
theorem chain_read (hg : R2Ok X.K r g) (hg' : R2Ok X.K r' g') : ∀ σ H Q, tE X.K (eChain g g' fa fb fc) σ H Q → tChain r r' (tE X.K fa) (tE X.K fb) (tE X.K fc) σ H Q := by
  intro σ H Q h
  obtain ⟨ρ, m, F, as, e, m', env, hp, hf, q⟩ := h
  obtain ⟨⟨ex, m1⟩, h1, hf⟩ := bind2 hf
  obtain ⟨⟨ey, m2⟩, h2, hf⟩ := bind2 hf
  obtain ⟨⟨er, m3⟩, h3, hf⟩ := bind2 hf
  refine estep env hp h1 fun v1 H1 F1 as1 x1 hp1 env1 r1 => estep env1 hp1 h2 fun v2 H2 F2 as2 x2 hp2 env2 r2 => ?_
  refine hg v1 v2 H2 F2 as2 m2 ex ey er m3 _ hp2 (r1.ext x2) r2 h3 fun v3 H3 F3 as3 x3 hp3 r3 => ?_
  have env3 := env2.ext x3
  have x123 := x1.trans (x2.trans x3)
  cases er with
  | d d =>
    cases d with
    | bl k =>
      refine ⟨k, RepE_bl r3, ?_⟩
      cases k with
      | true =>
        obtain ⟨⟨ez, m4⟩, h4, hf⟩ := bind2 hf
        refine estep env3 hp3 h4 fun v4 H4 F4 as4 x4 hp4 env4 r4 => ?_
        exact hg' v2 v4 H4 F4 as4 m4 ey ez e m' Q hp4 (r2.ext (x3.trans x4)) r4 hf fun v H' F' as' x5 hp5 r5 => q v H' F' as' (x123.trans (x4.trans x5)) hp5 r5
      | false => cases hf; exact q _ H3 F3 as3 x123 hp3 (.d .bl)
    | _ => cases hf
  | _ => cases hf
theorem r_chain {op op' : CmpOp} (ho : OpR X (compareOp op) r) (hg : R2Ok X.K r g) (ho' : OpR X (compareOp op') r') (hg' : R2Ok X.K r' g') (ha : PE X a (tE X.K fa)) (hb : PE X b (tE X.K fb)) (hc : PE X c (tE X.K fc))
    (hm : lastMarks [op, op'] [b, c] = false := by with_unfolding_all rfl) : PE X (.Compare a [op, op'] [b, c] pos) (tE X.K (eChain g g' fa fb fc)) := PE_imp (pe_chain ho ho' ha hb hc hm) (chain_read hg hg')
theorem r_chainT {op op' : CmpOp} (ho : OpR X (compareOp op) r) (hg : R2Ok X.K r g) (ho' : OpR X (compareOp op') r') (hg' : R2Ok X.K r' g') (ha : PE X a (tE X.K fa)) (hb : PE X b (tE X.K fb)) (hc : PE X c (tE X.K fc))
    (hm : lastMarks [op, op'] [b, c] = false := by with_unfolding_all rfl) : PT X (.Compare a [op, op'] [b, c] pos) (tT X.K (tOf (eChain g g' fa fb fc))) := PT_imp (pt_chain ho ho' ha hb hc hm) (test_read (chain_read hg hg'))
end

/-! ### isinstance -/
def kindD : D → Option String
  | .non => some "NoneType"
  | .bl _ => some "bool"
  | .int _ => some "int"
  | .str _ => some "str"
  | .tup _ => some "tuple"
  | .lst _ => some "list"
  | _ => none
def isKind (T k : String) : Bool := k == T || (k == "bool" && T == "int")
def eIsi (T : String) (f : Ex) : Ex := fun ρ m => (f ρ m).bind fun p => (look p.2 p.1).bind fun d => (kindD d).bind fun k => some (.d (.bl (isKind T k)), p.2)
/-- the built-in classes of which the text asks -/
abbrev askable : List String := ["tuple", "list", "bool", "int", "str"]
theorem kit_isKind {K : PySem.W.Frag} {T k : String} (hT : T ∈ askable) (d : D) (hk : kindD d = some k) : PySem.W.kitOne K (.type k) (.type T) = some (isKind T k) := by
  have hk2 : k ∈ ["NoneType", "bool", "int", "str", "tuple", "list"] := by
    cases d <;> first | (cases hk; decide) | cases hk
  simp only [askable, List.mem_cons, List.not_mem_nil, or_false] at hT hk2
  rcases hT with rfl | rfl | rfl | rfl | rfl <;> rcases hk2 with rfl | rfl | rfl | rfl | rfl | rfl <;> exact kit_ty (by decide +kernel)
theorem tyx_of {K : PySem.W.Frag} {H F : Hp} {v : V} {d : D} {k : String} (s : FSub F H) (r : RepL K H F v d) (hk : kindD d = some k) : TyX K H v (.type k) := by
  cases d with
  | non => cases hk; rw [r.non]; exact .base .non
  | bl b => cases hk; rw [r.bl]; exact .base (.bl b)
  | int i => cases hk; rw [r.int]; exact .base (.int i)
  | str x => cases hk; rw [r.str]; exact .base (.str x)
  | tup ds => cases hk; obtain ⟨a, vs, rfl, _, h, _⟩ := r.tup s; exact .base (.tup h)
  | lst ds => cases hk; obtain ⟨a, vs, rfl, h, _⟩ := r.list s; exact .base (.lst h)
  | _ => cases hk
section
variable {X : Cx} {x y : Str} {T : String} {e : Expr} {f : Ex} {p p2 pos : Pos}
theorem r_isi (hT : T ∈ askable) (hg : Gl X x) (hm : X.mg x = none) (hv : bootBuiltins x = some (.builtin "isinstance")) (hgT : Gl X y) (hmT : X.mg y = none) (hvT : bootBuiltins y = some (.type T)) (he : PE X e (tE X.K f))
    (hn : x ≠ "__name__" := by decide) (hdb : (x == ("__debug__" : Str)) = false := by decide) (hnT : y ≠ "__name__" := by decide) (hdbT : (y == ("__debug__" : Str)) = false := by decide)
    (hs : starEach [e, .Name y p2] X.env = (false, eval e X.env) :: starEach [.Name y p2] X.env := by rfl) (hs2 : starEach [.Name y p2] X.env = (false, eval (.Name y p2) X.env) :: starEach [] X.env := by rfl) (hpl : (backTo pos (starEach [.Name y p2] X.env)).any (·.1) = false := by rfl) :
    PE X (.Call (.Name x p) [e, .Name y p2] [] pos) (tE X.K (eIsi T f)) :=
  PE_imp (pe_callB call_isi hg hm hv (pa_cons he (pa_cons (pe_bltn (v := .ty T) hgT hmT hvT rfl hnT hdbT) pa_nil hs2) hs) hn hdb hs hpl) fun σ H Q h => by
    obtain ⟨ρ, m, F, as, e, m', env, hp, hf, q⟩ := h
    obtain ⟨⟨e1, m1⟩, h1, hf⟩ := bind2 hf
    obtain ⟨d, h2, hf⟩ := bind2 hf
    obtain ⟨k, h3, hf⟩ := bind2 hf
    cases hf
    refine estep env hp h1 fun v H1 F1 as1 x1 hp1 env1 r1 => ?_
    exact ⟨v, .ty T, _, _, _, rfl, .ty T, tyx_of hp1.sub (look_rep hp1 r1 h2) h3, kit_isKind hT d h3, q _ H1 F1 as1 x1 hp1 (.d .bl)⟩
end

/-! ### data as the library reads it -/
mutual
def py : D → Option PyData
  | .non => some .none
  | .int i => some (.int i)
  | .str x => if PyData.strOk x = true then some (.str x) else none
  | .tup xs => (pys xs).map .tuple
  | .lst xs => (pys xs).map .list
  | _ => none
def pys : List D → Option (List PyData)
  | [] => some []
  | x :: xs => (py x).bind fun p => (pys xs).map (p :: ·)
end
mutual
theorem py_inj : ∀ (x y : D) (p q : PyData), py x = some p → py y = some q → (PyData.eqv p q = true ↔ x = y)
  | .non, y, p, q, h1, h2 => by
    simp only [py] at h1; cases h1
    cases y <;> simp only [py] at h2 <;> first | (cases h2; simp [PyData.eqv]; done) | cases h2 | (obtain ⟨ps, _, rfl⟩ := Option.map_eq_some_iff.mp h2; simp [PyData.eqv]; done) | (split at h2; (cases h2; simp [PyData.eqv]); cases h2)
  | .int i, y, p, q, h1, h2 => by
    simp only [py] at h1; cases h1
    cases y <;> simp only [py] at h2 <;> first | (cases h2; simp [PyData.eqv]; done) | cases h2 | (obtain ⟨ps, _, rfl⟩ := Option.map_eq_some_iff.mp h2; simp [PyData.eqv]; done) | (split at h2; (cases h2; simp [PyData.eqv]); cases h2)
  | .str i, y, p, q, h1, h2 => by
    simp only [py] at h1
    split at h1
    · cases h1
      cases y <;> simp only [py] at h2 <;> first | (cases h2; simp [PyData.eqv]; done) | cases h2 | (obtain ⟨ps, _, rfl⟩ := Option.map_eq_some_iff.mp h2; simp [PyData.eqv]; done) | (split at h2; (cases h2; simp [PyData.eqv]); cases h2)
    · cases h1
  | .tup xs, y, p, q, h1, h2 => by
    simp only [py] at h1
    obtain ⟨ps, e1, rfl⟩ := Option.map_eq_some_iff.mp h1
    cases y with
    | tup ys =>
      simp only [py] at h2
      obtain ⟨qs, e2, rfl⟩ := Option.map_eq_some_iff.mp h2
      have ih := pys_inj xs ys ps qs e1 e2
      simp only [PyData.eqv, D.tup.injEq]
      exact ih
    | non => simp only [py] at h2; cases h2; simp [PyData.eqv]
    | int _ => simp only [py] at h2; cases h2; simp [PyData.eqv]
    | str _ => simp only [py] at h2; split at h2; (cases h2; simp [PyData.eqv]); cases h2
    | lst _ => simp only [py] at h2; obtain ⟨qs, e2, rfl⟩ := Option.map_eq_some_iff.mp h2; simp [PyData.eqv]
    | bl _ => simp only [py] at h2; cases h2
    | dic _ => simp only [py] at h2; cases h2
    | dicT _ => simp only [py] at h2; cases h2
    | scr _ => simp only [py] at h2; cases h2
  | .lst xs, y, p, q, h1, h2 => by
    simp only [py] at h1
    obtain ⟨ps, e1, rfl⟩ := Option.map_eq_some_iff.mp h1
    cases y with
    | lst ys =>
      simp only [py] at h2
      obtain ⟨qs, e2, rfl⟩ := Option.map_eq_some_iff.mp h2
      have ih := pys_inj xs ys ps qs e1 e2
      simp only [PyData.eqv, D.lst.injEq]
      exact ih
    | non => simp only [py] at h2; cases h2; simp [PyData.eqv]
    | int _ => simp only [py] at h2; cases h2; simp [PyData.eqv]
    | str _ => simp only [py] at h2; split at h2; (cases h2; simp [PyData.eqv]); cases h2
    | tup _ => simp only [py] at h2; obtain ⟨qs, e2, rfl⟩ := Option.map_eq_some_iff.mp h2; simp [PyData.eqv]
    | bl _ => simp only [py] at h2; cases h2
    | dic _ => simp only [py] at h2; cases h2
    | dicT _ => simp only [py] at h2; cases h2
    | scr _ => simp only [py] at h2; cases h2
  | .bl _, _, _, _, h1, _ => by simp only [py] at h1; cases h1
  | .dic _, _, _, _, h1, _ => by simp only [py] at h1; cases h1
  | .dicT _, _, _, _, h1, _ => by simp only [py] at h1; cases h1
  | .scr _, _, _, _, h1, _ => by simp only [py] at h1; cases h1
theorem pys_inj : ∀ (xs ys : List D) (ps qs : List PyData), pys xs = some ps → pys ys = some qs → (PyData.eqvAll ps qs = true ↔ xs = ys)
  | [], [], _, _, h1, h2 => by
    simp only [pys] at h1 h2; cases h1; cases h2; simp [PyData.eqvAll]
  | [], y :: ys, _, _, h1, h2 => by
    simp only [pys] at h1 h2; cases h1
    obtain ⟨q, _, h2⟩ := bind2 h2
    obtain ⟨qs, _, rfl⟩ := Option.map_eq_some_iff.mp h2
    simp [PyData.eqvAll]
  | x :: xs, [], _, _, h1, h2 => by
    simp only [pys] at h1 h2; cases h2
    obtain ⟨q, _, h1⟩ := bind2 h1
    obtain ⟨qs, _, rfl⟩ := Option.map_eq_some_iff.mp h1
    simp [PyData.eqvAll]
  | x :: xs, y :: ys, _, _, h1, h2 => by
    simp only [pys] at h1 h2
    obtain ⟨p, e1, h1⟩ := bind2 h1
    obtain ⟨ps, e2, rfl⟩ := Option.map_eq_some_iff.mp h1
    obtain ⟨q, e3, h2⟩ := bind2 h2
    obtain ⟨qs, e4, rfl⟩ := Option.map_eq_some_iff.mp h2
    simp only [PyData.eqvAll, Bool.and_eq_true, List.cons.injEq]
    rw [py_inj x y p q e1 e3, pys_inj xs ys ps qs e2 e4]
end
mutual
def depD : D → Nat
  | .tup xs => depDs xs + 1
  | .lst xs => depDs xs + 1
  | _ => 0
def depDs : List D → Nat
  | [] => 0
  | x :: xs => max (depD x) (depDs xs)
end
mutual
theorem py_shape : ∀ (x : D) (p : PyData), py x = some p → p.canLay0 = true ∧ p.depth = depD x
  | .non, p, h => by simp only [py] at h; cases h; exact ⟨by simp [PyData.canLay0], by simp [PyData.depth, depD]⟩
  | .int _, p, h => by simp only [py] at h; cases h; exact ⟨by simp [PyData.canLay0], by simp [PyData.depth, depD]⟩
  | .str _, p, h => by
    simp only [py] at h
    split at h
    · rename_i z
      cases h
      exact ⟨by simp only [PyData.canLay0]; exact z, by simp [PyData.depth, depD]⟩
    · cases h
  | .tup xs, p, h => by
    simp only [py] at h
    obtain ⟨ps, e, rfl⟩ := Option.map_eq_some_iff.mp h
    obtain ⟨a, b⟩ := pys_shape xs ps e
    exact ⟨by simp only [PyData.canLay0]; exact a, by simp only [PyData.depth, depD, b]⟩
  | .lst xs, p, h => by
    simp only [py] at h
    obtain ⟨ps, e, rfl⟩ := Option.map_eq_some_iff.mp h
    obtain ⟨a, b⟩ := pys_shape xs ps e
    exact ⟨by simp only [PyData.canLay0]; exact a, by simp only [PyData.depth, depD, b]⟩
  | .bl _, _, h => by simp only [py] at h; cases h
  | .dic _, _, h => by simp only [py] at h; cases h
  | .dicT _, _, h => by simp only [py] at h; cases h
  | .scr _, _, h => by simp only [py] at h; cases h
theorem pys_shape : ∀ (xs : List D) (ps : List PyData), pys xs = some ps → PyData.canLayAll0 ps = true ∧ PyData.depthAll ps = depDs xs
  | [], _, h => by simp only [pys] at h; cases h; exact ⟨by simp [PyData.canLayAll0], by simp [PyData.depthAll, depDs]⟩
  | x :: xs, _, h => by
    simp only [pys] at h
    obtain ⟨p, e1, h⟩ := bind2 h
    obtain ⟨ps, e2, rfl⟩ := Option.map_eq_some_iff.mp h
    obtain ⟨a, b⟩ := py_shape x p e1
    obtain ⟨c, d⟩ := pys_shape xs ps e2
    exact ⟨by simp only [PyData.canLayAll0, Bool.and_eq_true]; exact ⟨a, c⟩, by simp only [PyData.depthAll, depDs, b, d]⟩
end
mutual
theorem dp_of {K : PySem.W.Frag} {H F : Hp} (s : FSub F H) : ∀ (d : D) (p : PyData) (v : V), py d = some p → Rep K F v d → Dp K H v p
  | .non, p, v, h, r => by simp only [py] at h; cases h; cases r; exact .non
  | .int _, p, v, h, r => by simp only [py] at h; cases h; cases r; exact .int _
  | .str _, p, v, h, r => by
    simp only [py] at h
    split at h
    · cases h; cases r; exact .str _
    · cases h
  | .tup xs, p, v, h, r => by
    simp only [py] at h
    obtain ⟨ps, e, rfl⟩ := Option.map_eq_some_iff.mp h
    cases r with
    | tup h1 h2 h3 => exact .tup (.of (s.tup h1)) (dps_of s xs ps _ e h3)
  | .lst xs, p, v, h, r => by
    simp only [py] at h
    obtain ⟨ps, e, rfl⟩ := Option.map_eq_some_iff.mp h
    cases r with
    | lst h1 h2 h3 => exact .lst (.of (s.lst h1)) (dps_of s xs ps _ e h3)
  | .bl _, _, _, h, _ => by simp only [py] at h; cases h
  | .dic _, _, _, h, _ => by simp only [py] at h; cases h
  | .dicT _, _, _, h, _ => by simp only [py] at h; cases h
  | .scr _, _, _, h, _ => by simp only [py] at h; cases h
theorem dps_of {K : PySem.W.Frag} {H F : Hp} (s : FSub F H) : ∀ (ds : List D) (ps : List PyData) (vs : List V), pys ds = some ps → Reps K F vs ds → DpAll K H vs ps
  | [], _, _, h, r => by simp only [pys] at h; cases h; cases r; exact .nil
  | x :: xs, _, _, h, r => by
    simp only [pys] at h
    obtain ⟨p, e1, h⟩ := bind2 h
    obtain ⟨ps, e2, rfl⟩ := Option.map_eq_some_iff.mp h
    cases r with
    | cons r1 r2 => exact .cons (dp_of s x p _ e1 r1) (dps_of s xs ps _ e2 r2)
end
theorem dp_look {K : PySem.W.Frag} {H F : Hp} (s : FSub F H) {d : D} {p : PyData} {v : V} (h : py d = some p) (r : RepL K H F v d) : Dp K H v p := by
  cases r with
  | of r => exact dp_of s d p v h r
  | @lst a vs ds h1 h2 h3 =>
    simp only [py] at h
    obtain ⟨ps, e, rfl⟩ := Option.map_eq_some_iff.mp h
    exact .lst (.of h1) (dps_of s ds ps _ e h3)
  | dic _ _ => simp only [py] at h; cases h
  | dicT _ _ => simp only [py] at h; cases h
theorem py_shaped {d : D} {p : PyData} (h : py d = some p) (hd : depD d ≤ 64) : SeqAt.shaped p = true := by
  obtain ⟨a, b⟩ := py_shape d p h
  show (p.canLay0 && decide (p.depth ≤ 64)) = true
  rw [Bool.and_eq_true]
  exact ⟨a, decide_eq_true (by omega)⟩
noncomputable def eqD (x y : D) : Option Bool := match eqS x y with
  | some b => some b
  | none => match py x, py y with
    | some _, some _ => if depD x ≤ 64 ∧ depD y ≤ 64 then some (decide (x = y)) else none
    | _, _ => none
noncomputable def opEqA (x y : D) : Option D := (eqD x y).map .bl
noncomputable def opNeA (x y : D) : Option D := (eqD x y).map fun b => .bl !b
def rEqA (K : PySem.W.Frag) : R2 := fun x y H Q => rEq x y H Q ∨ rEqD K x y H Q
def rNeA (K : PySem.W.Frag) : R2 := fun x y H Q => rNe x y H Q ∨ rNeD K x y H Q
theorem op_eqA {X : Cx} (hu : X.A.units + 64 < cLine) : OpR X (compareOp .Eq) (rEqA X.K) := op_eq.or (op_eqD hu)
theorem op_neA {X : Cx} (hu : X.A.units + 64 < cLine) : OpR X (compareOp .NotEq) (rNeA X.K) := op_ne.or (op_neD hu)
theorem eqD_cases {K : PySem.W.Frag} {H F : Hp} {x y : V} {dx dy : D} {b : Bool} (s : FSub F H) (rx : RepL K H F x dx) (ry : RepL K H F y dy) (h : eqD dx dy = some b) :
    (scal x y = true ∧ decide (x = y) = b) ∨ ∃ d e, Dp K H x d ∧ Dp K H y e ∧ SeqAt.shaped d = true ∧ SeqAt.shaped e = true ∧ PyData.eqv d e = b := by
  unfold eqD at h
  split at h
  · rename_i b' e
    cases h
    exact .inl (eqS_ok rx ry e)
  · split at h
    · rename_i p q e1 e2
      split at h
      · rename_i z
        cases h
        refine .inr ⟨p, q, dp_look s e1 rx, dp_look s e2 ry, py_shaped e1 z.1, py_shaped e2 z.2, ?_⟩
        have := py_inj dx dy p q e1 e2
        by_cases w : dx = dy
        · rw [decide_eq_true w]; exact this.mpr w
        · rw [decide_eq_false w]
          cases r : PyData.eqv p q with
          | false => rfl
          | true => exact absurd (this.mp r) w
      · cases h
    · cases h
theorem d_eqA {K : PySem.W.Frag} : D2Ok K (rEqA K) opEqA := by
  intro x y H F dx dy d Q s rx ry hd q
  obtain ⟨b, h1, rfl⟩ := Option.map_eq_some_iff.mp hd
  rcases eqD_cases s rx ry h1 with ⟨h2, h3⟩ | ⟨p, p', h2, h3, h4, h5, h6⟩
  · exact .inl ⟨h2, by rw [h3]; exact q _ H F (.refl s) .bl⟩
  · exact .inr ⟨p, p', h2, h3, h4, h5, by rw [h6]; exact q _ H F (.refl s) .bl⟩
theorem d_neA {K : PySem.W.Frag} : D2Ok K (rNeA K) opNeA := by
  intro x y H F dx dy d Q s rx ry hd q
  obtain ⟨b, h1, rfl⟩ := Option.map_eq_some_iff.mp hd
  rcases eqD_cases s rx ry h1 with ⟨h2, h3⟩ | ⟨p, p', h2, h3, h4, h5, h6⟩
  · exact .inl ⟨h2, by rw [h3]; exact q _ H F (.refl s) .bl⟩
  · exact .inr ⟨p, p', h2, h3, h4, h5, by rw [h6]; exact q _ H F (.refl s) .bl⟩

/-! ### in -/
def rInT (K : PySem.W.Frag) (neg : Bool) : R2 := fun x y H Q => ∃ d e, (∃ ds, (e = .list ds ∨ e = .tuple ds) ∧ Dp K H x d ∧ Dp K H y e ∧ SeqAt.shaped d = true ∧ SeqAt.shaped e = true ∧ Q (.bl (if neg then !(ds.any fun z => PyData.eqv z d) else ds.any fun z => PyData.eqv z d)) H)
theorem room_in2 {A : Around} {d : PyData} {n : Nat} (h : SeqAt.shaped d = true) (hu : A.units + 65 < cLine) : A.units + 1 + min n d.depth < cLine := by
  have := SeqAt.depth_of_shaped h
  omega
theorem op_inT {X : Cx} (hu : X.A.units + 65 < cLine) : OpR X (compareOp .In) (rInT X.K false) := by
  intro pins s σ H x y v u Q I rx ry h
  obtain ⟨d, e, ds, he, hd, hy, sd, se, q⟩ := h
  obtain ⟨as, r1⟩ := Dp.reads I d x v hd rx
  obtain ⟨bs, r2⟩ := Dp.reads I e y u hy ry
  have q : Q (.bl (ds.any fun z => PyData.eqv z d)) H := q
  rcases he with rfl | rfl
  · exact SeqAt.in_list_reads r2 r1 (SeqAt.canLay_of_shaped se) (SeqAt.canLay_of_shaped sd) (room_in2 sd hu) ⟨.bl _, H, I, rfl, q⟩
  · exact SeqAt.in_tuple_reads r2 r1 (SeqAt.canLay_of_shaped se) (SeqAt.canLay_of_shaped sd) (room_in2 sd hu) ⟨.bl _, H, I, rfl, q⟩
theorem op_notInT {X : Cx} (hu : X.A.units + 65 < cLine) : OpR X (compareOp .NotIn) (rInT X.K true) := by
  intro pins s σ H x y v u Q I rx ry h
  obtain ⟨d, e, ds, he, hd, hy, sd, se, q⟩ := h
  obtain ⟨as, r1⟩ := Dp.reads I d x v hd rx
  obtain ⟨bs, r2⟩ := Dp.reads I e y u hy ry
  have q : Q (.bl (!ds.any fun z => PyData.eqv z d)) H := q
  rcases he with rfl | rfl
  · exact SeqAt.notIn_list_reads r2 r1 (SeqAt.canLay_of_shaped se) (SeqAt.canLay_of_shaped sd) (room_in2 sd hu) ⟨.bl _, H, I, rfl, q⟩
  · exact SeqAt.notIn_tuple_reads r2 r1 (SeqAt.canLay_of_shaped se) (SeqAt.canLay_of_shaped sd) (room_in2 sd hu) ⟨.bl _, H, I, rfl, q⟩
noncomputable def inD (x y : D) : Option Bool := (itemsOf y).bind fun ds => match py x, py y with
  | some _, some _ => if depD x ≤ 64 ∧ depD y ≤ 64 then some (decide (x ∈ ds)) else none
  | _, _ => none
noncomputable def opIn (x y : D) : Option D := (inD x y).map .bl
noncomputable def opNotIn (x y : D) : Option D := (inD x y).map fun b => .bl !b
theorem any_mem {x : D} {p : PyData} (hx : py x = some p) : ∀ (ds : List D) (ps : List PyData), pys ds = some ps → ((ps.any fun z => PyData.eqv z p) = true ↔ x ∈ ds)
  | [], _, h => by simp only [pys] at h; cases h; simp
  | y :: ys, _, h => by
    simp only [pys] at h
    obtain ⟨q, e1, h⟩ := bind2 h
    obtain ⟨qs, e2, rfl⟩ := Option.map_eq_some_iff.mp h
    rw [List.any_cons, Bool.or_eq_true, List.mem_cons, any_mem hx ys qs e2, py_inj y x q p e1 hx]
    constructor
    · rintro (h | h)
      · exact .inl h.symm
      · exact .inr h
    · rintro (h | h)
      · exact .inl h.symm
      · exact .inr h
theorem inD_cases {K : PySem.W.Frag} {H F : Hp} {x y : V} {dx dy : D} {b : Bool} (s : FSub F H) (rx : RepL K H F x dx) (ry : RepL K H F y dy) (h : inD dx dy = some b) :
    ∃ d e, ∃ ds, (e = .list ds ∨ e = .tuple ds) ∧ Dp K H x d ∧ Dp K H y e ∧ SeqAt.shaped d = true ∧ SeqAt.shaped e = true ∧ (ds.any fun z => PyData.eqv z d) = b := by
  unfold inD at h
  obtain ⟨ds, h1, h⟩ := bind2 h
  split at h
  · rename_i p q e1 e2
    split at h
    · rename_i z
      cases h
      have main : ∀ ps, pys ds = some ps → (ps.any fun z => PyData.eqv z p) = decide (dx ∈ ds) := fun ps e3 => by
        have := any_mem e1 ds ps e3
        by_cases w : dx ∈ ds
        · rw [decide_eq_true w]; exact this.mpr w
        · rw [decide_eq_false w]
          cases r : (ps.any fun z => PyData.eqv z p) with
          | false => rfl
          | true => exact absurd (this.mp r) w
      have e2' := e2
      cases dy with
      | lst ys =>
        cases h1
        simp only [py] at e2'
        obtain ⟨ps, e3, rfl⟩ := Option.map_eq_some_iff.mp e2'
        exact ⟨p, _, ps, .inl rfl, dp_look s e1 rx, dp_look s e2 ry, py_shaped e1 z.1, py_shaped e2 z.2, main ps e3⟩
      | tup ys =>
        cases h1
        simp only [py] at e2'
        obtain ⟨ps, e3, rfl⟩ := Option.map_eq_some_iff.mp e2'
        exact ⟨p, _, ps, .inr rfl, dp_look s e1 rx, dp_look s e2 ry, py_shaped e1 z.1, py_shaped e2 z.2, main ps e3⟩
      | _ => cases h1
    · cases h
  · cases h
theorem d_in {K : PySem.W.Frag} : D2Ok K (rInT K false) opIn := by
  intro x y H F dx dy d Q s rx ry hd q
  obtain ⟨b, h1, rfl⟩ := Option.map_eq_some_iff.mp hd
  obtain ⟨p, e, ds, h2, h3, h4, h5, h6, h7⟩ := inD_cases s rx ry h1
  exact ⟨p, e, ds, h2, h3, h4, h5, h6, by show Q (.bl (ds.any fun z => PyData.eqv z p)) H; rw [h7]; exact q _ H F (.refl s) .bl⟩
theorem d_notIn {K : PySem.W.Frag} : D2Ok K (rInT K true) opNotIn := by
  intro x y H F dx dy d Q s rx ry hd q
  obtain ⟨b, h1, rfl⟩ := Option.map_eq_some_iff.mp hd
  obtain ⟨p, e, ds, h2, h3, h4, h5, h6, h7⟩ := inD_cases s rx ry h1
  exact ⟨p, e, ds, h2, h3, h4, h5, h6, by show Q (.bl (!ds.any fun z => PyData.eqv z p)) H; rw [h7]; exact q _ H F (.refl s) .bl⟩
/-! ### is None -/
def opIsN : D → D → Option D
  | .non, .non => some (.bl true)
  | _, .non => some (.bl false)
  | _, _ => none
def opNotN : D → D → Option D
  | .non, .non => some (.bl false)
  | _, .non => some (.bl true)
  | _, _ => none
theorem RepL.isnon {K : PySem.W.Frag} {H F : Hp} {v : V} {d : D} (r : RepL K H F v d) : v = .non ↔ d = .non := by
  cases r with
  | of r => cases r <;> simp
  | _ => simp
theorem d_isN {K : PySem.W.Frag} : D2Ok K (fun x y H Q => y = .non ∧ Q (.bl (decide (x = .non))) H) opIsN := by
  intro x y H F dx dy d Q s rx ry hd q
  have hn := rx.isnon
  unfold opIsN at hd
  split at hd
  · cases hd
    refine ⟨ry.non, ?_⟩
    rw [decide_eq_true (hn.mpr rfl)]
    exact q _ H F (.refl s) .bl
  · rename_i h
    cases hd
    refine ⟨ry.non, ?_⟩
    rw [decide_eq_false (fun z => h (hn.mp z))]
    exact q _ H F (.refl s) .bl
  · cases hd
theorem d_notN {K : PySem.W.Frag} : D2Ok K (fun x y H Q => y = .non ∧ Q (.bl (!decide (x = .non))) H) opNotN := by
  intro x y H F dx dy d Q s rx ry hd q
  have hn := rx.isnon
  unfold opNotN at hd
  split at hd
  · cases hd
    refine ⟨ry.non, ?_⟩
    rw [decide_eq_true (hn.mpr rfl)]
    exact q _ H F (.refl s) .bl
  · rename_i h
    cases hd
    refine ⟨ry.non, ?_⟩
    rw [decide_eq_false (fun z => h (hn.mp z))]
    exact q _ H F (.refl s) .bl
  · cases hd
end PL
/-! PL7: the methods of lists, slices, ranges as lists, sets' sizes, the deal. -/
namespace PL
open PySem PySem.Spec L2
set_option autoImplicit false

def cellL (m : Store) (c : Nat) : Option (List D) := match m[c]? with
  | some (.lst xs) => some xs
  | _ => none
theorem cellL_eq {m : Store} {c : Nat} {xs : List D} (h : cellL m c = some xs) : m[c]? = some (.lst xs) := by
  unfold cellL at h
  split at h
  · rename_i e; cases h; exact e
  · cases h
section
variable {K : PySem.W.Frag} {F H : Hp} {as : Cs} {m : Store} {a : Addr} {c : Nat} {o : O} {ho : HO}
theorem HeapOk.write (hp : HeapOk K H F as m) (ha : as.c[c]? = some a) (hF : F a = none) (y : CellOk K (upd H a ho) F a o) : HeapOk K (upd H a ho) F as (m.set c o) := by
  have hl : c < m.length := by rw [← hp.len]; exact (List.getElem?_eq_some_iff.mp ha).1
  refine ⟨fun b u q => ?_, by rw [List.length_set]; exact hp.len, hp.nd, fun b q => ?_, fun c' b u q1 q2 => ?_, fun p hq => ?_, hp.pnd⟩
  · rw [upd_ne (fun z => by rw [z, hF] at q; cases q)]
    exact hp.sub b u q
  · by_cases e : b = a
    · rw [e, upd_same]; simp
    · rw [upd_ne e]; exact hp.there b q
  · by_cases hc : c = c'
    · subst hc
      rw [ha] at q1
      cases q1
      rw [List.getElem?_set_self hl] at q2
      cases q2
      exact y
    · rw [List.getElem?_set_ne hc] at q2
      have nb : b ≠ a := fun z => by
        rw [z] at q1
        exact hc (nd_ix hp.nd ha q1)
      have z := hp.cell c' b u q1 q2
      cases u with
      | lst ds => obtain ⟨y1, z, vs, y2, y3⟩ := z; exact ⟨y1, z, vs, by rw [upd_ne nb]; exact y2, y3⟩
      | dic ds => obtain ⟨y1, vs, y2, y3⟩ := z; exact ⟨y1, vs, by rw [upd_ne nb]; exact y2, y3⟩
      | dicT ds => obtain ⟨y1, vs, y2, y3⟩ := z; exact ⟨y1, vs, by rw [upd_ne nb]; exact y2, y3⟩
      | frz d => exact z
  · obtain ⟨p1, p2, p3⟩ := hp.prot p hq
    exact ⟨by rw [upd_ne (fun z => p3 (by rw [z]; exact List.mem_of_getElem? ha))]; exact p1, p2, p3⟩
theorem HeapOk.cellLst {ds : List D} (hp : HeapOk K H F as m) (ha : as.c[c]? = some a) (hm : cellL m c = some ds) : F a = none ∧ ds.length ≤ sizeLine ∧ ∃ vs, H a = some (.lst vs) ∧ Reps K F vs ds := hp.cell c a _ ha (cellL_eq hm)
end

/-! ### append, extend, pop -/
def eApp (fx fe : Ex) : Ex := fun ρ m => (fx ρ m).bind fun p => match p.1 with
  | .own c => (cellL p.2 c).bind fun _ => (fe ρ p.2).bind fun q => (frzE q.2 q.1).bind fun d => (cellL d.2 c).bind fun xs => if xs.length < big then some (.d .non, d.2.set c (.lst (xs ++ [d.1]))) else none
  | _ => none
def eExt (fx fe : Ex) : Ex := fun ρ m => (fx ρ m).bind fun p => match p.1 with
  | .own c => (cellL p.2 c).bind fun _ => (fe ρ p.2).bind fun q => (frzE q.2 q.1).bind fun d => (cellL d.2 c).bind fun xs => match d.1 with
    | .lst ys => if xs.length + ys.length ≤ big then some (.d .non, d.2.set c (.lst (xs ++ ys))) else none
    | _ => none
  | _ => none
def ePop (fx : Ex) : Ex := fun ρ m => (fx ρ m).bind fun p => match p.1 with
  | .own c => (cellL p.2 c).bind fun xs => (xs[xs.length - 1]?).bind fun d => some (.d d, p.2.set c (.lst xs.dropLast))
  | _ => none
section
variable {X : Cx} {o e : Expr} {fx fe : Ex} {apos cpos : Pos}
theorem r_app (ho : PE X o (tE X.K fx)) (he : PE X e (tE X.K fe))
    (hbase : attributeBase o "append" X.env (eval o X.env) = eval o X.env := by rfl)
    (hfew : ((backTo cpos (starEach [e] X.env)).all (fun x => !x.1) && (backToKw cpos (keywordEach [] X.env)).all (fun x => x.1.isSome)
      && decide ([e].length + ([] : List Keyword).length + (if ([] : List Keyword).isEmpty then 0 else 1) < 30)) = true := by rfl)
    (hline : (apos.endLine == cpos.line) = true := by rfl) (hs : starEach [e] X.env = (false, eval e X.env) :: starEach [] X.env := by rfl) (hplain : (backTo cpos (starEach [] X.env)).any (·.1) = false := by rfl) :
    PE X (.Call (.Attribute o "append" apos) [e] [] cpos) (tE X.K (eApp fx fe)) :=
  PE_imp (pe_bm PySem.F.plainAttrs_list PySem.F.slot_list_append PySem.F.type_list_append mt_append ho (pa_cons he pa_nil hs) hbase hfew hline hs hplain) fun σ H Q h => by
    obtain ⟨ρ, m, F, as, e, m', env, hp, hf, q⟩ := h
    obtain ⟨⟨e1, m1⟩, h1, hf⟩ := bind2 hf
    cases e1 with
    | own c =>
      obtain ⟨xs0, h2, hf⟩ := bind2 hf
      obtain ⟨⟨e2, m2⟩, h3, hf⟩ := bind2 hf
      obtain ⟨⟨d, m3⟩, h4, hf⟩ := bind2 hf
      obtain ⟨xs, h5, hf⟩ := bind2 hf
      split at hf
      · rename_i z
        cases hf
        refine estep env hp h1 fun v1 H1 F1 as1 x1 hp1 env1 r1 => ?_
        cases r1 with
        | @own a _ r1 =>
          obtain ⟨_, _, vs0, g1, _⟩ := hp1.cellLst r1 h2
          refine ⟨.inl ⟨rfl, vs0, .of g1⟩, estep env1 hp1 h3 fun v2 H2 F2 as2 x2 hp2 env2 r2 => ?_⟩
          obtain ⟨F3, x3, hp3, r3⟩ := frzE_ok hp2 r2 h4
          have ra := pre_get x2.2.1 r1
          obtain ⟨f1, z1, vs, g2, rv⟩ := hp3.cellLst ra h5
          refine ⟨a, vs, v2, rfl, rfl, g2, by rw [rv.length]; exact big_lt z, ?_⟩
          exact q _ _ F3 as2 (x1.trans (x2.trans x3)) (hp3.write ra f1 ⟨f1, by rw [List.length_append]; exact big_le z, _, upd_same, rv.append (.cons r3 .nil)⟩) (.d .non)
      · cases hf
    | _ => cases hf
theorem r_ext (ho : PE X o (tE X.K fx)) (he : PE X e (tE X.K fe))
    (hbase : attributeBase o "extend" X.env (eval o X.env) = eval o X.env := by rfl)
    (hfew : ((backTo cpos (starEach [e] X.env)).all (fun x => !x.1) && (backToKw cpos (keywordEach [] X.env)).all (fun x => x.1.isSome)
      && decide ([e].length + ([] : List Keyword).length + (if ([] : List Keyword).isEmpty then 0 else 1) < 30)) = true := by rfl)
    (hline : (apos.endLine == cpos.line) = true := by rfl) (hs : starEach [e] X.env = (false, eval e X.env) :: starEach [] X.env := by rfl) (hplain : (backTo cpos (starEach [] X.env)).any (·.1) = false := by rfl) :
    PE X (.Call (.Attribute o "extend" apos) [e] [] cpos) (tE X.K (eExt fx fe)) :=
  PE_imp (pe_bm PySem.F.plainAttrs_list PySem.F.slot_list_extend PySem.F.type_list_extend mt_extend ho (pa_cons he pa_nil hs) hbase hfew hline hs hplain) fun σ H Q h => by
    obtain ⟨ρ, m, F, as, e, m', env, hp, hf, q⟩ := h
    obtain ⟨⟨e1, m1⟩, h1, hf⟩ := bind2 hf
    cases e1 with
    | own c =>
      obtain ⟨xs0, h2, hf⟩ := bind2 hf
      obtain ⟨⟨e2, m2⟩, h3, hf⟩ := bind2 hf
      obtain ⟨⟨d, m3⟩, h4, hf⟩ := bind2 hf
      obtain ⟨xs, h5, hf⟩ := bind2 hf
      cases d with
      | lst ys =>
        simp only at hf
        split at hf
        · rename_i z
          cases hf
          refine estep env hp h1 fun v1 H1 F1 as1 x1 hp1 env1 r1 => ?_
          cases r1 with
          | @own a _ r1 =>
            obtain ⟨_, _, vs0, g1, _⟩ := hp1.cellLst r1 h2
            refine ⟨.inl ⟨rfl, vs0, .of g1⟩, estep env1 hp1 h3 fun v2 H2 F2 as2 x2 hp2 env2 r2 => ?_⟩
            obtain ⟨F3, x3, hp3, r3⟩ := frzE_ok hp2 r2 h4
            have ra := pre_get x2.2.1 r1
            obtain ⟨f1, z1, vs, g2, rv⟩ := hp3.cellLst ra h5
            obtain ⟨b, ws, rfl, g3, z3, rw'⟩ := RepL.list hp3.sub (.of r3 : RepL X.K H2 F3 v2 (.lst ys))
            refine ⟨a, b, vs, ws, rfl, rfl, g2, g3, by rw [rv.length, rw'.length]; exact big_le z, ?_⟩
            exact q _ _ F3 as2 (x1.trans (x2.trans x3)) (hp3.write ra f1 ⟨f1, by rw [List.length_append]; exact big_le z, _, upd_same, rv.append rw'⟩) (.d .non)
        · cases hf
      | _ => cases hf
    | _ => cases hf
theorem Reps.dropLast {K : PySem.W.Frag} {F : Hp} {vs : List V} {ds : List D} (r : Reps K F vs ds) : Reps K F vs.dropLast ds.dropLast := by
  rw [List.dropLast_eq_take, List.dropLast_eq_take, r.length]
  exact r.take _
theorem r_pop (ho : PE X o (tE X.K fx)) (hbase : attributeBase o "pop" X.env (eval o X.env) = eval o X.env := by rfl) (hline : (apos.endLine == cpos.line) = true := by rfl) :
    PE X (.Call (.Attribute o "pop" apos) [] [] cpos) (tE X.K (ePop fx)) :=
  PE_imp (pe_bm0 PySem.F.plainAttrs_list PySem.F.slot_list_pop PySem.F.type_list_pop mt_pop ho hbase hline) fun σ H Q h => by
    obtain ⟨ρ, m, F, as, e, m', env, hp, hf, q⟩ := h
    obtain ⟨⟨e1, m1⟩, h1, hf⟩ := bind2 hf
    cases e1 with
    | own c =>
      obtain ⟨xs, h2, hf⟩ := bind2 hf
      obtain ⟨d, h3, hf⟩ := bind2 hf
      cases hf
      refine estep env hp h1 fun v1 H1 F1 as1 x1 hp1 env1 r1 => ?_
      cases r1 with
      | @own a _ r1 =>
        obtain ⟨f1, z1, vs, g1, rv⟩ := hp1.cellLst r1 h2
        obtain ⟨v, e1, e2⟩ := rv.get h3
        refine ⟨.inl ⟨rfl, vs, .of g1⟩, a, vs, v, rfl, rfl, g1, by rw [rv.length]; exact e1, ?_⟩
        exact q _ _ F1 as1 x1 (hp1.write r1 f1 ⟨f1, by rw [List.length_dropLast]; omega, _, upd_same, rv.dropLast⟩) (.d e2)
    | _ => cases hf
end

/-! ### count, index: of a list of ints -/
/-- a method of one argument that changes nothing -/
def eM2 (op : D → D → Option D) (fx fe : Ex) : Ex := fun ρ m => (fx ρ m).bind fun p => (look p.2 p.1).bind fun d0 => match d0 with
  | .lst _ => (fe ρ p.2).bind fun q => g2 op p.1 q.1 q.2
  | _ => none
def opCount : D → D → Option D
  | .lst xs, .int k => (intsOf xs).map fun ns => .int (ns.count k : Nat)
  | _, _ => none
def opIndex : D → D → Option D
  | .lst xs, .int k => (intsOf xs).bind fun ns => if k ∈ ns then some (.int (ns.idxOf k : Nat)) else none
  | _, _ => none
section
variable {X : Cx} {o e : Expr} {fx fe : Ex} {apos cpos : Pos}
theorem m2_read {r : V → List V → Hp → VK → Prop} {op : D → D → Option D} (hd : D2Ok X.K (fun x y => r x [y]) op) : ∀ σ H Q, tE X.K (eM2 op fx fe) σ H Q → tBM X.K "list" r (tE X.K fx) (tCons (tE X.K fe) tNil) σ H Q := by
  intro σ H Q h
  obtain ⟨ρ, m, F, as, e, m', env, hp, hf, q⟩ := h
  obtain ⟨⟨e1, m1⟩, h1, hf⟩ := bind2 hf
  obtain ⟨d0, h2, hf⟩ := bind2 hf
  cases d0 with
  | lst xs =>
    obtain ⟨⟨e2, m2⟩, h3, hf⟩ := bind2 hf
    refine estep env hp h1 fun v1 H1 F1 as1 x1 hp1 env1 r1 => ?_
    obtain ⟨a, vs, rfl, g1, z1, rr⟩ := (look_rep hp1 r1 h2).list hp1.sub
    refine ⟨.inl ⟨rfl, vs, .of g1⟩, estep env1 hp1 h3 fun v2 H2 F2 as2 x2 hp2 env2 r2 => ?_⟩
    exact hd.r2 _ v2 H2 F2 as2 m2 e1 e2 e m' Q hp2 (r1.ext x2) r2 hf fun v H' F' as' x3 hp3 r3 => q v H' F' as' (x1.trans (x2.trans x3)) hp3 r3
  | _ => cases hf
theorem d_count {K : PySem.W.Frag} : D2Ok K (fun x y => rCntI K x [y]) opCount := by
  intro x y H F dx dy d Q s rx ry hd q
  unfold opCount at hd
  split at hd
  · obtain ⟨ns, h1, rfl⟩ := Option.map_eq_some_iff.mp hd
    obtain ⟨a, rfl, hq⟩ := list_ints s rx h1
    exact ⟨a, ns, _, rfl, by rw [ry.int], hq, q _ H F (.refl s) .int⟩
  · cases hd
theorem flat_ints (ns : List Int) : (ns.map V.int).all flatV = true := by
  rw [List.all_map]
  exact List.all_eq_true.mpr fun _ _ => rfl
theorem eqV_int {a b : Int} : eqV (.int a) (.int b) = decide (a = b) := by
  show (_ : Bool) = _
  unfold eqV
  first
    | rfl
    | simp
theorem idxOf_get {k : Int} : ∀ {ns : List Int}, k ∈ ns → ns[ns.idxOf k]? = some k ∧ ∀ (j : Nat) (z : Int), j < ns.idxOf k → ns[j]? = some z → z ≠ k
  | [], h => nomatch h
  | n :: ns, h => by
    by_cases e : n = k
    · subst e
      rw [List.idxOf_cons_self]
      exact ⟨rfl, fun j z hj => absurd hj (Nat.not_lt_zero _)⟩
    · have h2 : k ∈ ns := by
        rcases List.mem_cons.mp h with q | q
        · exact absurd q.symm e
        · exact q
      obtain ⟨h3, h4⟩ := idxOf_get h2
      have ec : (n :: ns).idxOf k = ns.idxOf k + 1 := by
        rw [List.idxOf_cons]
        have : (n == k) = false := beq_eq_false_iff_ne.mpr e
        rw [this]
        rfl
      rw [ec]
      refine ⟨h3, fun j z hj hz => ?_⟩
      cases j with
      | zero => cases hz; exact e
      | succ j => exact h4 j z (by omega) hz
theorem d_index {K : PySem.W.Frag} : D2Ok K (fun x y => rIndex K x [y]) opIndex := by
  intro x y H F dx dy d Q s rx ry hd q
  unfold opIndex at hd
  split at hd
  · obtain ⟨ns, h1, hd⟩ := bind2 hd
    split at hd
    · rename_i hk
      cases hd
      obtain ⟨a, rfl, hq⟩ := list_ints s rx h1
      obtain ⟨h3, h4⟩ := idxOf_get hk
      have ey := ry.int
      subst ey
      refine ⟨a, ns.map V.int, .int _, ns.idxOf _, .int _, rfl, rfl, hq, rfl, flat_ints ns, by rw [List.getElem?_map, h3]; rfl, by rw [eqV_int]; simp, fun j z hj hz => ?_, q _ H F (.refl s) .int⟩
      rw [List.getElem?_map] at hz
      obtain ⟨z', e1, rfl⟩ := Option.map_eq_some_iff.mp hz
      rw [eqV_int]
      exact decide_eq_false (h4 j z' hj e1)
    · cases hd
  · cases hd
theorem r_count (ho : PE X o (tE X.K fx)) (he : PE X e (tE X.K fe))
    (hbase : attributeBase o "count" X.env (eval o X.env) = eval o X.env := by rfl)
    (hfew : ((backTo cpos (starEach [e] X.env)).all (fun x => !x.1) && (backToKw cpos (keywordEach [] X.env)).all (fun x => x.1.isSome)
      && decide ([e].length + ([] : List Keyword).length + (if ([] : List Keyword).isEmpty then 0 else 1) < 30)) = true := by rfl)
    (hline : (apos.endLine == cpos.line) = true := by rfl) (hs : starEach [e] X.env = (false, eval e X.env) :: starEach [] X.env := by rfl) (hplain : (backTo cpos (starEach [] X.env)).any (·.1) = false := by rfl) :
    PE X (.Call (.Attribute o "count" apos) [e] [] cpos) (tE X.K (eM2 opCount fx fe)) :=
  PE_imp (pe_bm PySem.F.plainAttrs_list PySem.F.slot_list_count PySem.F.type_list_count mt_lcount ho (pa_cons he pa_nil hs) hbase hfew hline hs hplain) (m2_read d_count)
theorem r_index (ho : PE X o (tE X.K fx)) (he : PE X e (tE X.K fe))
    (hbase : attributeBase o "index" X.env (eval o X.env) = eval o X.env := by rfl)
    (hfew : ((backTo cpos (starEach [e] X.env)).all (fun x => !x.1) && (backToKw cpos (keywordEach [] X.env)).all (fun x => x.1.isSome)
      && decide ([e].length + ([] : List Keyword).length + (if ([] : List Keyword).isEmpty then 0 else 1) < 30)) = true := by rfl)
    (hline : (apos.endLine == cpos.line) = true := by rfl) (hs : starEach [e] X.env = (false, eval e X.env) :: starEach [] X.env := by rfl) (hplain : (backTo cpos (starEach [] X.env)).any (·.1) = false := by rfl) :
    PE X (.Call (.Attribute o "index" apos) [e] [] cpos) (tE X.K (eM2 opIndex fx fe)) :=
  PE_imp (pe_bm PySem.F.plainAttrs_list PySem.F.slot_list_index PySem.F.type_list_index mt_index ho (pa_cons he pa_nil hs) hbase hfew hline hs hplain) (m2_read d_index)
end

/-! ### xs[i] = v -/
def sPutL (fo fi fv : Ex) : Sx := fun ρ m => (fv ρ m).bind fun p => (fo ρ p.2).bind fun q => (fi ρ q.2).bind fun r => match q.1 with
  | .own c => (intOf r.2 r.1).bind fun i => (frzE r.2 p.1).bind fun d => (cellL d.2 c).bind fun xs => (ixN xs.length i).bind fun j => some (.nx, ρ, d.2.set c (.lst (xs.set j d.1)))
  | _ => none
section
variable {X : Cx} {o i e : Expr} {fo fi fv : Ex} {pos pos' : Pos}
theorem r_putL (ho : PE X o (tE X.K fo)) (hi : PE X i (tE X.K fi)) (hv : PE X e (tE X.K fv)) (ha : ∀ v, assign (.Subscript o i pos') X.env v = (do
      let ov ← holding [v] (eval o X.env)
      let iv ← holding [v, ov] (eval i X.env)
      standAt pos'
      holding [v, ov, iv] (setItem ov iv v)
      release [v, ov, iv] []) := by intro _; rfl) (hs : swapsWithSole [.Subscript o i pos'] e pos.line X.env = pure false := by rfl) (hw : swappedStores [.Subscript o i pos'] e X.env = pure none := by rfl)
    (h1 : (assignEach [.Subscript o i pos'] X.env).map (·.2) = [assign (.Subscript o i pos') X.env] := by rfl) : PS X (.Assign [.Subscript o i pos'] e pos) (tS X.K (sPutL fo fi fv)) :=
  PS_imp (ps_asg hv (pg_sub ho hi set_list ha) hs hw h1) fun D σ H h => by
    obtain ⟨ρ, m, F, as, fl, ρ', m', env, hp, hf, q⟩ := h
    obtain ⟨⟨e1, m1⟩, g1, hf⟩ := bind2 hf
    obtain ⟨⟨e2, m2⟩, g2, hf⟩ := bind2 hf
    obtain ⟨⟨e3, m3⟩, g3, hf⟩ := bind2 hf
    cases e2 with
    | own c =>
      obtain ⟨k, g4, hf⟩ := bind2 hf
      obtain ⟨⟨d, m4⟩, g5, hf⟩ := bind2 hf
      obtain ⟨xs, g6, hf⟩ := bind2 hf
      obtain ⟨j, g7, hf⟩ := bind2 hf
      cases hf
      refine estep env hp g1 fun v1 H1 F1 as1 x1 hp1 env1 r1 => estep env1 hp1 g2 fun v2 H2 F2 as2 x2 hp2 env2 r2 => estep env2 hp2 g3 fun v3 H3 F3 as3 x3 hp3 env3 r3 => ?_
      have e3' := intOf_rep hp3 r3 g4
      subst e3'
      obtain ⟨F4, x4, hp4, r4⟩ := frzE_ok hp3 (r1.ext (x2.trans x3)) g5
      cases r2 with
      | @own a _ r2 =>
        have ra := pre_get x3.2.1 r2
        obtain ⟨f1, z1, vs, g8, rv⟩ := hp4.cellLst ra g6
        have xx := x1.trans (x2.trans (x3.trans x4))
        refine ⟨a, vs, k, j, rfl, rfl, g8, by rw [rv.length]; exact g7, ?_⟩
        exact q σ _ F4 as3 xx (env3.ext x4) (hp4.write ra f1 ⟨f1, by rw [List.length_set]; exact z1, _, upd_same, Reps.set r4 j rv⟩)
    | _ => cases hf
end

/-! ### slices -/
abbrev Ox := Rho → Store → Option (Option Int × Store)
def oNone : Ox := fun _ m => some (none, m)
def oSome (f : Ex) : Ox := fun ρ m => (f ρ m).bind fun p => (intOf p.2 p.1).bind fun i => some (some i, p.2)
def tO (K : PySem.W.Frag) (f : Ox) : TO := fun σ H Q => ∃ ρ m F as o m', EnvOk K F as σ ρ ∧ HeapOk K H F as m ∧ f ρ m = some (o, m') ∧ ∀ H' F' as', Ext F F' as as' → HeapOk K H' F' as' m' → Q o H'
def cutD {α : Type} (xs : List α) (lo hi : Option Int) : List α := (xs.drop (HT.sIx xs.length 0 lo)).take (HT.sIx xs.length xs.length hi - HT.sIx xs.length 0 lo)
def opSl : D → Option Int → Option Int → Option D
  | .lst xs, lo, hi => some (.lst (cutD xs lo hi))
  | .tup xs, lo, hi => some (.tup (cutD xs lo hi))
  | _, _, _ => none
def eSl (f : Ex) (l h : Ox) : Ex := fun ρ m => (f ρ m).bind fun p => (l ρ p.2).bind fun q => (h ρ q.2).bind fun r => (look r.2 p.1).bind fun d => (opSl d q.1 r.1).bind fun d' => some (.d d', r.2)
theorem cutD_le {α : Type} (xs : List α) (lo hi : Option Int) : (cutD xs lo hi).length ≤ xs.length := by
  unfold cutD
  rw [List.length_take, List.length_drop]
  omega
section
variable {X : Cx} {e : Expr} {el eh : Option Expr} {e1 : Expr} {f : Ex} {l h : Ox} {p2 pos : Pos}
theorem PO_imp {o : Option Expr} {t t' : TO} (h : PO X o t) (i : ∀ σ H Q, t' σ H Q → t σ H Q) : PO X o t' := ⟨fun pins s σ H Q I q => h.run pins s σ H Q I (i σ H Q q)⟩
theorem r_onone : PO X none (tO X.K oNone) := PO_imp po_none fun σ H Q h => by
  obtain ⟨ρ, m, F, as, o, m', env, hp, hf, q⟩ := h
  cases hf
  exact q H F as .refl hp
theorem r_osome (he : PE X e1 (tE X.K f)) : PO X (some e1) (tO X.K (oSome f)) := PO_imp (po_some he) fun σ H Q h => by
  obtain ⟨ρ, m, F, as, o, m', env, hp, hf, q⟩ := h
  obtain ⟨⟨e2, m1⟩, h1, hf⟩ := bind2 hf
  obtain ⟨i, h2, hf⟩ := bind2 hf
  cases hf
  exact estep env hp h1 fun v H1 F1 as1 x1 hp1 env1 r1 => ⟨i, intOf_rep hp1 r1 h2, q H1 F1 as1 x1 hp1⟩
theorem Reps.cut {K : PySem.W.Frag} {F : Hp} {vs : List V} {ds : List D} (r : Reps K F vs ds) (lo hi : Option Int) : Reps K F (cutV vs lo hi) (cutD ds lo hi) := by
  unfold cutV cutD
  rw [r.length]
  exact (r.drop _).take _
theorem sIx_none0 (n d : Nat) : HT.sIx n d none = d := rfl
theorem cut_whole {α : Type} (xs : List α) (lo hi : Option Int) (h : HT.sIx xs.length 0 lo = 0 ∧ HT.sIx xs.length xs.length hi = xs.length) : cutD xs lo hi = xs := by
  unfold cutD
  rw [h.1, h.2]
  simp
theorem r_sl (he : PE X e (tE X.K f)) (hl : PO X el (tO X.K l)) (hh : PO X eh (tO X.K h)) : PE X (.Subscript e (.Slice el eh none p2) pos) (tE X.K (eSl f l h)) :=
  PE_imp (pe_slice (sl_list.or sl_tupA) he hl hh) fun σ H Q h => by
    obtain ⟨ρ, m, F, as, e, m', env, hp, hf, q⟩ := h
    obtain ⟨⟨e1, m1⟩, h1, hf⟩ := bind2 hf
    obtain ⟨⟨lo, m2⟩, h2, hf⟩ := bind2 hf
    obtain ⟨⟨hi, m3⟩, h3, hf⟩ := bind2 hf
    obtain ⟨d, h4, hf⟩ := bind2 hf
    obtain ⟨d', h5, hf⟩ := bind2 hf
    cases hf
    refine estep env hp h1 fun v H1 F1 as1 x1 hp1 env1 r1 => ⟨ρ, m1, F1, as1, lo, m2, env1, hp1, h2, fun H2 F2 as2 x2 hp2 => ⟨ρ, m2, F2, as2, hi, m3, env1.ext x2, hp2, h3, fun H3 F3 as3 x3 hp3 => ?_⟩⟩
    have rl := look_rep hp3 (r1.ext (x2.trans x3)) h4
    have xx := x1.trans (x2.trans x3)
    cases d with
    | lst ds =>
      cases h5
      obtain ⟨a, vs, rfl, g1, z1, rr⟩ := rl.list hp3.sub
      refine .inl ⟨a, vs, rfl, .of g1, fun p hn => ?_⟩
      have g := Grow.laid (o := .lst (cutV vs lo hi)) hp3.sub hn
      exact q _ _ _ as3 (xx.trans (hp3.ext g)) (hp3.grow g) (.d (.lst upd_same (Nat.le_trans (cutV_length _ _ _) z1) ((rr.cut lo hi).mono (g.same hp3.sub))))
    | tup ds =>
      cases h5
      obtain ⟨a, vs, rfl, f1, g1, z1, rr⟩ := rl.tup hp3.sub
      refine .inr ⟨a, vs, rfl, .of g1, fun w => ?_, fun w p hn => ?_⟩
      · refine q _ H3 F3 as3 xx hp3 ?_
        show RepE X.K F3 as3 (.ref a) (.d (.tup (cutD ds lo hi)))
        rw [cut_whole ds lo hi (by rw [← rr.length]; exact w)]
        exact .d (.tup f1 z1 rr)
      · have g := Grow.laid (o := .tup (cutV vs lo hi)) hp3.sub hn
        exact q _ _ _ as3 (xx.trans (hp3.ext g)) (hp3.grow g) (.d (.tup upd_same (Nat.le_trans (cutV_length _ _ _) z1) ((rr.cut lo hi).mono (g.same hp3.sub))))
    | _ => cases h5
end
end PL
/-! PL8: turned slices, repeated lists, ranges as lists, sets' sizes, powers, the deal. -/
namespace PLt
open PySem PyProof.Rows HT
variable {prog : Program} {w : World} {A : Around} {E : Value → Shared → Prop} {s : Shared}
theorem fm_congr {α β : Type} {f g : α → Option β} : ∀ {l : List α}, (∀ a ∈ l, f a = g a) → l.filterMap f = l.filterMap g
  | [], _ => rfl
  | a :: l, h => by
    rw [List.filterMap_cons, List.filterMap_cons, h a List.mem_cons_self, fm_congr fun b hb => h b (List.mem_cons_of_mem _ hb)]
theorem places_rev (n : Nat) : Builtin.Slice.slicePlaces ((n : Int) - 1) (-1) (-1) = n := by
  unfold Builtin.Slice.slicePlaces
  rw [if_neg (by decide)]
  by_cases h : (n : Int) - 1 > -1
  · rw [if_pos h, show (-(-1) : Int) = 1 by decide, Int.ediv_one]
    omega
  · rw [if_neg h]
    omega
theorem pick_rev (xs : Array Value) : ((List.range xs.size).filterMap fun (m : Nat) => xs[(((xs.size : Nat) : Int) - 1 + (m : Int) * (-1)).toNat]?).toArray = xs.toList.reverse.toArray := by
  congr 1
  have e : (List.range xs.size).filterMap (fun (m : Nat) => xs[(((xs.size : Nat) : Int) - 1 + (m : Int) * (-1)).toNat]?) = ((List.range xs.size).map fun k => xs.size - 1 - k).filterMap (xs[·]?) := by
    rw [List.filterMap_map]
    refine fm_congr fun m hm => ?_
    have := List.mem_range.mp hm
    have e2 : (((xs.size : Nat) : Int) - 1 + (m : Int) * (-1)).toNat = xs.size - 1 - m := by omega
    show xs[(((xs.size : Nat) : Int) - 1 + (m : Int) * (-1)).toNat]? = xs[xs.size - 1 - m]?
    rw [e2]
  rw [e, PySem.W.krv_range, List.filterMap_reverse, PySem.W.krv_all]
theorem getItem_tuple_rev {t sl : Addr} {items : Array Value} {vl vu vs : Value} {Q : Value → Shared → Prop} (ht : IsTup s.heap t items) (hs : s.heap.IsSliceOf sl vl vu vs) (pl : IsPart vl none) (pu : IsPart vu none) (ps : IsPart vs (some (-1)))
    (h : Q (.ref s.heap.objs.size) { s with heap := s.heap.push { cls := .type "tuple", data := .seq items.toList.reverse.toArray } })
    (hsz : items.size ≤ sizeLine) : wpAny (model prog w) A (getItem (.ref t) (.ref sl)) Q E s := by
  have htake : sizeOk (.seq items.toList.reverse.toArray) := by
    show items.toList.reverse.toArray.size ≤ sizeLine
    rw [List.size_toArray, List.length_reverse, Array.length_toList]
    exact hsz
  obtain ⟨os, hos, hcs, hds⟩ := id hs
  have hTs : s.TypeIs (.ref sl) "slice" := ⟨os, hos, hcs⟩
  unfold getItem
  try with_reducible refine wpAny_holding ?_
  first | refine wpAny_bind (wpAny_pure ?_) | skip
  refine wpAny_bind (wpAny_sequenceKey ht.typeIs (by decide) ?_)
  refine wpAny_bind (wpAny_callSpecial?_slot (name := Str.ofString "__getitem__") ht.typeIs PyProof.Rows.slot_tuple_getitem
    (wpAny_call_entry PyProof.Rows.slot_tuple_getitem ht.typeIs entry_tuple_getitem ?_ (args_tuple_getitem _ _)))
  show wpAny _ _ (Builtin.Tuple.tupleItemsOf (.ref t) >>= _) _ _ s
  refine wpAny_bind (tupleItemsOf_ ht ?_)
  refine wpAny_bind (wpAny_typeOf hTs ?_)
  rw [if_pos (by decide)]
  refine wpAny_bind (m := Builtin.Slice.sliceApplied _ _) ?_
  unfold Builtin.Slice.sliceApplied Builtin.Slice.sliceFields
  refine wpAny_bind (wpAny_bind (wpAny_field hos hds (x := vl) rfl (wpAny_bind (wpAny_field hos hds (x := vu) rfl (wpAny_bind (wpAny_field hos hds (x := vs) rfl (wpAny_pure ?_)))))))
  refine wpAny_bind (slicePart_ ps ?_)
  show wpAny _ _ (if ((-1 : Int) == 0) = true then _ else _) _ _ s
  rw [if_neg (by decide)]
  refine wpAny_bind (slicePart_ pl (wpAny_bind (slicePart_ pu (wpAny_bind (wpAny_pure ?_)))))
  show wpAny _ _ (pure (((items.size : Nat) : Int) - 1, (-1 : Int), Builtin.Slice.slicePlaces (((items.size : Nat) : Int) - 1) (-1) (-1))) _ _ s
  rw [places_rev]
  refine wpAny_pure ?_
  have hno : ¬ (((((items.size : Nat) : Int) - 1) == 0 && (-1 : Int) == 1 && items.size == items.size) = true) := by
    intro q
    rw [Bool.and_eq_true, Bool.and_eq_true] at q
    exact absurd q.1.2 (by decide)
  show wpAny _ _ (if ((((items.size : Nat) : Int) - 1) == 0 && (-1 : Int) == 1 && items.size == items.size) = true then _ else _) _ _ s
  rw [if_neg hno, pick_rev]
  first
    | exact wpAny_bind (m := Builtin.Tuple.tupleExact _) (wpAny_newObj_type (wpAny_pure ⟨_, rfl, wpAny_pure h⟩) htake)
    | exact wpAny_bind (m := Builtin.Tuple.tupleExact _) (wpAny_newObj_type (wpAny_bind (wpAny_pure (wpAny_pure ⟨_, rfl, wpAny_pure h⟩))) htake)
    | exact wpAny_bind (wpAny_bind (m := Builtin.Tuple.tupleExact _) (wpAny_newObj_type (wpAny_pure (wpAny_pure ⟨_, rfl, wpAny_pure h⟩)) htake))
    | exact wpAny_bind (wpAny_bind (m := Builtin.Tuple.tupleExact _) (wpAny_newObj_type (wpAny_pure ⟨_, rfl, wpAny_pure h⟩) htake))
end PLt
namespace PL
open PySem PySem.Spec L2
set_option autoImplicit false
/-- t[::-1] of a tuple -/
def tRevT (K : PySem.W.Frag) (te : TE) : TE := fun σ H Q => te σ H fun x H1 => ∃ a xs, x = .ref a ∧ SqT K H1 a xs ∧ ∀ p, H1 p = none → Q (.ref p) (upd H1 p (.tup xs.reverse))
theorem pe_revT {X : Cx} {e : Expr} {te : TE} {k : Nat} {p1 p2 p3 pos : Pos} (he : PE X e te) : PE X (.Subscript e (.Slice none none (some (.UnaryOp .USub (.Constant (.int 1) k p1) p2)) p3) pos) (tRevT X.K te) := by
  refine ⟨fun pins s σ H Q I h => ?_⟩
  refine PyProof.Rows.Subscript_ (thn (he.run pins s σ H _ I h) fun v s1 ⟨x, H1, I1, r1, q1⟩ => ?_)
  obtain ⟨a, xs, ex, hx, q⟩ := q1
  subst ex
  cases r1
  have hst : PO X (some (.UnaryOp .USub (.Constant (.int 1) k p1) p2)) (tPart (tUn (rU fun i => .int (-i)) (tC (.int 1)))) := po_some (pe_un un_neg pe_int)
  refine wpAny_Slice (thn (po_none.run pins s1 σ H1 (fun o H2 => o = none ∧ H2 = H1) I1 ⟨rfl, rfl⟩) fun vl s2 ⟨l, H2, I2, pl, el, e2⟩ => ?_)
  subst el e2
  refine thn (po_none.run pins s2 σ H2 (fun o H3 => o = none ∧ H3 = H2) I2 ⟨rfl, rfl⟩) fun vu s3 ⟨u, H3, I3, pu, eu, e3⟩ => ?_
  subst eu e3
  refine thn (hst.run pins s3 σ H3 (fun o H4 => o = some (-1) ∧ H4 = H3) I3 ⟨1, rfl, -1, rfl, rfl, rfl⟩) fun vs s4 ⟨o, H4, I4, ps, eo, e4⟩ => ?_
  subst eo e4
  have I5 : Inv X pins σ H4 { s4 with heap := s4.heap.push { cls := .type "slice", data := .fields #[vl, vu, vs] } } := I4.kept (t' := s4.toks) fun b ob q => Heap.get?_push_of_some _ q
  obtain ⟨its, r, ht, hz⟩ := I5.tuple hx
  have hlen := r.length
  show wpAny (model X.prog X.w) X.A (PyProof.Rows.subscriptTail e (.Slice none none (some (.UnaryOp .USub (.Constant (.int 1) k p1) p2)) p3) (.ref a) (.ref s4.heap.objs.size)) (EP X pins σ Q) X.xe { s4 with heap := s4.heap.push { cls := .type "slice", data := .fields #[vl, vu, vs] } }
  refine PyProof.Rows.tail_any (ops := [.ref a, .ref s4.heap.objs.size]) ht.typeIs (PyProof.Rows.slot_tuple_getitem.lookup) ?_ (by with_unfolding_all rfl)
  refine PLt.getItem_tuple_rev ht (Heap.IsSliceOf.new _ vl vu vs) pl pu ps ?_ (by rw [List.size_toArray]; omega)
  refine ⟨.ref _, _, I5.laid (t' := s4.toks) (o := .tup xs.reverse) (fun b ob q => Heap.get?_push_of_some _ q) (Nat.le_refl _) ?_, rfl, q _ (I5.hok.fresh (Nat.le_refl _))⟩
  exact ⟨by rw [List.length_reverse]; exact hz, _, r.reverse, ⟨_, Heap.get?_push_size _ rfl, rfl, _, rfl⟩⟩
theorem PE_or {X : Cx} {e : Expr} {t t' : TE} (h : PE X e t) (h' : PE X e t') : PE X e (fun σ H Q => t σ H Q ∨ t' σ H Q) := ⟨fun pins s σ H Q I q => q.elim (h.run pins s σ H Q I) (h'.run pins s σ H Q I)⟩
def opRev : D → Option D
  | .lst xs => some (.lst xs.reverse)
  | .tup xs => some (.tup xs.reverse)
  | _ => none
section
variable {X : Cx} {e : Expr} {f : Ex} {k : Nat} {p1 p2 p3 pos : Pos}
theorem r_rev (he : PE X e (tE X.K f)) : PE X (.Subscript e (.Slice none none (some (.UnaryOp .USub (.Constant (.int 1) k p1) p2)) p3) pos) (tE X.K (eUn opRev f)) :=
  PE_imp (PE_or (pe_revL he) (pe_revT he)) fun σ H Q h => by
    obtain ⟨ρ, m, F, as, e, m', env, hp, hf, q⟩ := h
    obtain ⟨⟨e1, m1⟩, h1, hf⟩ := bind2 hf
    obtain ⟨d, h2, hf⟩ := bind2 hf
    obtain ⟨d', h3, hf⟩ := bind2 hf
    cases hf
    cases d with
    | lst ds =>
      cases h3
      refine .inl (estep env hp h1 fun v H1 F1 as1 x1 hp1 env1 r1 => ?_)
      obtain ⟨a, vs, rfl, g1, z1, rr⟩ := (look_rep hp1 r1 h2).list hp1.sub
      refine ⟨a, vs, rfl, .of g1, fun p hn => ?_⟩
      have g := Grow.laid (o := .lst vs.reverse) hp1.sub hn
      exact q _ _ _ as1 (x1.trans (hp1.ext g)) (hp1.grow g) (.d (.lst upd_same (by rw [List.length_reverse]; exact z1) (rr.rev.mono (g.same hp1.sub))))
    | tup ds =>
      cases h3
      refine .inr (estep env hp h1 fun v H1 F1 as1 x1 hp1 env1 r1 => ?_)
      obtain ⟨a, vs, rfl, f1, g1, z1, rr⟩ := (look_rep hp1 r1 h2).tup hp1.sub
      refine ⟨a, vs, rfl, .of g1, fun p hn => ?_⟩
      have g := Grow.laid (o := .tup vs.reverse) hp1.sub hn
      exact q _ _ _ as1 (x1.trans (hp1.ext g)) (hp1.grow g) (.d (.tup upd_same (by rw [List.length_reverse]; exact z1) (rr.rev.mono (g.same hp1.sub))))
    | _ => cases h3
end
/-! ### products: ints, or a list so often -/
noncomputable def opMulA : D → D → Option D
  | .int i, .int j => if okP ((-(2 ^ 64) < i ∧ i < 2 ^ 64) ∨ (-(2 ^ 64) < j ∧ j < 2 ^ 64)) = true then some (.int (i * j)) else none
  | .lst xs, .int k => if okP (-(2 ^ 63) ≤ k ∧ k < 2 ^ 63 ∧ xs.length * k.toNat ≤ big) = true then some (.lst (List.replicate k.toNat xs).flatten) else none
  | _, _ => none
def rMulA : R2 := fun x y H Q => (rI CMul fun i j => .int (i * j)) x y H Q ∨ rRep x y H Q
theorem op_mulA {X : Cx} : OpR X (binaryOp .Mult) rMulA := op_mul.or op_rep
theorem Reps.rep {K : PySem.W.Frag} {F : Hp} {vs : List V} {ds : List D} (r : Reps K F vs ds) : ∀ k : Nat, Reps K F (List.replicate k vs).flatten (List.replicate k ds).flatten
  | 0 => .nil
  | k + 1 => by
    rw [List.replicate_succ, List.replicate_succ, List.flatten_cons, List.flatten_cons]
    exact r.append (Reps.rep r k)
theorem rep_len {α : Type} (xs : List α) : ∀ k : Nat, (List.replicate k xs).flatten.length = xs.length * k
  | 0 => by simp
  | k + 1 => by rw [List.replicate_succ, List.flatten_cons, List.length_append, rep_len xs k, Nat.mul_succ, Nat.add_comm]
theorem d_mulA {K : PySem.W.Frag} : D2Ok K rMulA opMulA := by
  intro x y H F dx dy d Q s rx ry hd q
  unfold opMulA at hd
  split at hd
  · split at hd
    · rename_i c
      have c := of_okP c
      cases hd
      exact .inl ⟨_, _, rx.int, ry.int, c, q _ H F (.refl s) .int⟩
    · cases hd
  · rename_i xs k
    split at hd
    · rename_i z
      have z := of_okP z
      cases hd
      obtain ⟨a, vs, rfl, h1, z1, r1⟩ := rx.list s
      refine .inr ⟨a, _, vs, rfl, ry.int, h1, z.1, z.2.1, by rw [r1.length]; exact big_le z.2.2, fun p hn => ?_⟩
      have g := Grow.laid (o := .lst (List.replicate k.toNat vs).flatten) s hn
      exact q _ _ _ g (.lst upd_same (by rw [rep_len, r1.length]; exact big_le z.2.2) ((r1.rep _).mono (g.same s)))
    · cases hd
  · cases hd
noncomputable abbrev opPow := opI fun i j => if okP ((0 ≤ j ∧ j ≤ 1000) ∧ i.natAbs < 2 ^ 64) = true then some (.int (i ^ j.toNat)) else none
theorem d_pow {K : PySem.W.Frag} : D2Ok K (rI CPow fun i j => .int (i ^ j.toNat)) opPow := d_int fun i j d h => by
  split at h
  · rename_i c
    have c := of_okP c
    cases h
    exact ⟨⟨c.1.1, by omega, c.2⟩, fun _ => .int⟩
  · cases h
/-! ### list(range(..)), tuple(range(..)) -/
noncomputable def eListRg (f : Ex) : Ex := fun ρ m => (f ρ m).bind fun p => (intOf p.2 p.1).bind fun n => if okP (-(big : Int) ≤ n ∧ n ≤ big) = true then some (.d (.lst (rangeE 0 n.toNat)), p.2) else none
noncomputable def eTupRg (f : Ex) : Ex := fun ρ m => (f ρ m).bind fun p => (intOf p.2 p.1).bind fun n => if okP (-(big : Int) ≤ n ∧ n ≤ big) = true then some (.d (.tup (rangeE 0 n.toNat)), p.2) else none
theorem reps_rg {K : PySem.W.Frag} {F : Hp} (n : Int) : Reps K F (rgV 0 n) (rangeE 0 n.toNat) := by
  unfold rgV rangeE
  rw [show (n - 0).toNat = n.toNat by omega]
  have : ∀ l : List Nat, Reps K F (l.map fun (i : Nat) => V.int (0 + (i : Int))) (l.map fun (i : Nat) => D.int (0 + (i : Int))) := fun l => by
    induction l with
    | nil => exact .nil
    | cons a l ih => exact .cons .int ih
  exact this _
theorem rg_fits {n : Int} (h : -(big : Int) ≤ n ∧ n ≤ (big : Int)) : RgOk 0 n := by
  have hb : (big : Int) = 1000000 := rfl
  exact ⟨by omega, by omega, by omega, by omega, by omega⟩
theorem rg_len {n : Int} (h : -(big : Int) ≤ n ∧ n ≤ (big : Int)) : (rgV 0 n).length ≤ sizeLine := by
  have hb : (big : Int) = 1000000 := rfl
  rw [rgV_length, sizeLine_eq]
  omega
section
variable {X : Cx} {a : Expr} {f : Ex} {p p2 pos pos2 : Pos}
theorem r_listRg (hc : X.calm = true) (hg : Gl X "list") (hm : X.mg "list" = none) (hgr : Gl X "range") (hmr : X.mg "range" = none) (ha : PE X a (tE X.K f)) (na : starEach [a] X.env = (false, eval a X.env) :: starEach [] X.env := by rfl)
    (na2 : starEach [.Call (.Name "range" p2) [a] [] pos2] X.env = (false, eval (.Call (.Name "range" p2) [a] [] pos2) X.env) :: starEach [] X.env := by rfl) : PE X (.Call (.Name "list" p) [.Call (.Name "range" p2) [a] [] pos2] [] pos) (tE X.K (eListRg f)) :=
  PE_imp (pe_listRg hc hg hm (prg_1 hgr hmr ha na) na2) fun σ H Q h => by
    obtain ⟨ρ, m, F, as, e, m', env, hp, hf, q⟩ := h
    obtain ⟨⟨e1, m1⟩, h1, hf⟩ := bind2 hf
    obtain ⟨n, h2, hf⟩ := bind2 hf
    split at hf
    · rename_i z
      have z := of_okP z
      cases hf
      refine estep env hp h1 fun v H1 F1 as1 x1 hp1 env1 r1 => ⟨n, intOf_rep hp1 r1 h2, rg_fits z, fun l hn => ?_⟩
      have g := Grow.laid (o := .lst (rgV 0 n)) hp1.sub hn
      exact q _ _ _ as1 (x1.trans (hp1.ext g)) (hp1.grow g) (.d (.lst upd_same (rg_len z) (reps_rg n)))
    · cases hf
theorem r_tupRg (hc : X.calm = true) (hg : Gl X "tuple") (hm : X.mg "tuple" = none) (hgr : Gl X "range") (hmr : X.mg "range" = none) (ha : PE X a (tE X.K f)) (na : starEach [a] X.env = (false, eval a X.env) :: starEach [] X.env := by rfl)
    (na2 : starEach [.Call (.Name "range" p2) [a] [] pos2] X.env = (false, eval (.Call (.Name "range" p2) [a] [] pos2) X.env) :: starEach [] X.env := by rfl) : PE X (.Call (.Name "tuple" p) [.Call (.Name "range" p2) [a] [] pos2] [] pos) (tE X.K (eTupRg f)) :=
  PE_imp (pe_tupRg hc hg hm (prg_1 hgr hmr ha na) na2) fun σ H Q h => by
    obtain ⟨ρ, m, F, as, e, m', env, hp, hf, q⟩ := h
    obtain ⟨⟨e1, m1⟩, h1, hf⟩ := bind2 hf
    obtain ⟨n, h2, hf⟩ := bind2 hf
    split at hf
    · rename_i z
      have z := of_okP z
      cases hf
      refine estep env hp h1 fun v H1 F1 as1 x1 hp1 env1 r1 => ⟨n, intOf_rep hp1 r1 h2, rg_fits z, fun l hn => ?_⟩
      have g := Grow.laid (o := .tup (rgV 0 n)) hp1.sub hn
      exact q _ _ _ as1 (x1.trans (hp1.ext g)) (hp1.grow g) (.d (.tup upd_same (rg_len z) (reps_rg n)))
    · cases hf
end
/-! ### len(set(xs)), xs a list of ints -/
def distinct (ns : List Int) : List Int := ns.foldl PyProof.Rows.step_dedup []
theorem firstMet_eq (ns : List Int) : PyProof.Rows.firstMet (fun i => ns.getD i 0) ns.length = distinct ns := by
  unfold PyProof.Rows.firstMet distinct
  congr 1
  refine List.ext_getElem? fun i => ?_
  rw [List.getElem?_map]
  by_cases h : i < ns.length
  · rw [List.getElem?_range h]
    simp [h]
  · rw [List.getElem?_eq_none (by simpa using h), List.getElem?_eq_none (by omega)]
    rfl
def opLenSet : D → Option D
  | .lst xs => (intsOf xs).bind fun ns => if ns.length ≤ 4000 then some (.int (distinct ns).length) else none
  | _ => none
def tLenSetI (K : PySem.W.Frag) (ta : TE) : TE := fun σ H Q => ta σ H fun x H1 => ∃ l, ∃ ns : List Int, x = .ref l ∧ SqL K H1 l (ns.map V.int) ∧ ns.length ≤ 4000 ∧ Q (.int (distinct ns).length) H1
section
variable {X : Cx} {a : Expr} {ta : TE} {f : Ex} {p p2 q pos : Pos}
theorem pe_lenSetI (hc : X.calm = true) (hg : Gl X "len") (hm : X.mg "len" = none) (hg2 : Gl X "set") (hm2 : X.mg "set" = none) (ha : PE X a ta)
    (na : starEach [a] X.env = (false, eval a X.env) :: starEach [] X.env := by rfl) : PE X (.Call (.Name "len" p) [.Call (.Name "set" p2) [a] [] q] [] pos) (tLenSetI X.K ta) := by
  refine ⟨fun pins s σ H Q I h => ?_⟩
  refine PyProof.Rows.Call_ (ld_blt I hg hm PySem.boot_len ?_)
  refine PyProof.Rows.callWith_builtin1 (PyProof.Rows.args_cons ?_ rfl) rfl rfl
  refine PyProof.Rows.Call_ (ld_blt I hg2 hm2 PyProof.Rows.boot_set ?_)
  refine PyProof.Rows.callWith_type1 (PyProof.Rows.args_cons (thn (ha.run pins s σ H _ I h) fun v s1 ⟨x, H1, I1, r1, q1⟩ => PyProof.Rows.args_nil ?_) na) na rfl
  obtain ⟨l, ns, rfl, hq, hz, q1⟩ := q1
  cases r1
  obtain ⟨its, r, pl, _⟩ := I1.list hq
  have hi : PyProof.Rows.IntsAre its.toArray.toList ns := Vals.ints r
  have hl : its.toArray.size = ns.length := by
    have := r.length
    rw [List.length_map] at this
    rw [List.size_toArray]
    exact this.symm
  refine PySem.call_set_list (I1.ok.hd hc) pl.isList hi (by rw [hl]; show ns.length + 1 < 4096; omega) fun h' tk hS hk => ?_
  rw [hl, firstMet_eq] at hS
  refine PyProof.Rows.args_nil ?_
  obtain ⟨o, es, ep, t, ho, hex, hd, _, _, _, hf, hn⟩ := hS
  have I2 : Inv X pins σ H1 { s1 with heap := h', toks := tk } := I1.kept fun b o e => hk b o (Heap.lt_size e) e
  have hlen : (distinct ns).length ≤ 4000 := by
    have := PyProof.Rows.firstMet_length_le (fun i => ns.getD i 0) ns.length
    rw [firstMet_eq] at this
    omega
  refine call_len_set ho hex hd hf (by rw [hn] <;> omega) ⟨.int (distinct ns).length, H1, I2.tok _, ⟨_, by rw [hn]⟩, q1⟩
theorem r_lenSet (hc : X.calm = true) (hg : Gl X "len") (hm : X.mg "len" = none) (hg2 : Gl X "set") (hm2 : X.mg "set" = none) (ha : PE X a (tE X.K f))
    (na : starEach [a] X.env = (false, eval a X.env) :: starEach [] X.env := by rfl) : PE X (.Call (.Name "len" p) [.Call (.Name "set" p2) [a] [] q] [] pos) (tE X.K (eUn opLenSet f)) :=
  PE_imp (pe_lenSetI hc hg hm hg2 hm2 ha na) fun σ H Q h => by
    obtain ⟨ρ, m, F, as, e, m', env, hp, hf, q⟩ := h
    obtain ⟨⟨e1, m1⟩, h1, hf⟩ := bind2 hf
    obtain ⟨d, h2, hf⟩ := bind2 hf
    obtain ⟨d', h3, hf⟩ := bind2 hf
    cases hf
    refine estep env hp h1 fun v H1 F1 as1 x1 hp1 env1 r1 => ?_
    cases d with
    | lst xs =>
      obtain ⟨ns, h4, h3⟩ := bind2 h3
      split at h3
      · rename_i z
        cases h3
        obtain ⟨l, rfl, hq⟩ := list_ints hp1.sub (look_rep hp1 r1 h2) h4
        exact ⟨l, ns, rfl, hq, z, q _ H1 F1 as1 x1 hp1 (.d .int)⟩
      · cases h3
    | _ => cases h3
end
/-! ### the deal: its places -/
def dealAt (row : List Int) (c : Nat) (t : Int) : Int → Option E
  | 0 => some (.d (.lst (row.map .int)))
  | 1 => some (.own c)
  | 2 => some (.d (.int t))
  | _ => none
def gIx : G2 := fun x y m => match x with
  | .deal row c t => (intOf m y).bind fun i => (dealAt row c t i).bind fun e => some (e, m)
  | _ => g2 opIx x y m
theorem d_ixA {K : PySem.W.Frag} : R2Ok K (rIx K) gIx := by
  intro x y H F as m ex ey e m' Q hp rx ry hf q
  cases ex with
  | deal row c t =>
    obtain ⟨i, h1, hf⟩ := bind2 hf
    obtain ⟨e', h2, hf⟩ := bind2 hf
    cases hf
    have ei := intOf_rep hp ry h1
    subst ei
    cases rx with
    | @deal a r ca _ _ _ f1 f2 z f3 =>
      have hH := hp.sub.lst f1
      unfold dealAt at h2
      split at h2
      · cases h2
        exact .inl ⟨a, _, 0, .ref r, rfl, rfl, .of hH, rfl, q _ H F as .refl hp (.d (.lst f2 (by rw [List.length_map]; exact z) (Reps.of_ints row)))⟩
      · cases h2
        exact .inl ⟨a, _, 1, .ref ca, rfl, rfl, .of hH, rfl, q _ H F as .refl hp (.own f3)⟩
      · cases h2
        exact .inl ⟨a, _, 2, .int t, rfl, rfl, .of hH, rfl, q _ H F as .refl hp (.d .int)⟩
      · cases h2
  | d d => exact d_ix.r2 x y H F as m _ ey e m' Q hp rx ry hf q
  | own c => exact d_ix.r2 x y H F as m _ ey e m' Q hp rx ry hf q
/-- [row, [c], total], the deal as it is made: row written no more, [c] a cell -/
def eDeal (fr fc ft : Ex) : Ex := fun ρ m => (fr ρ m).bind fun p => (fc ρ p.2).bind fun q => (ft ρ q.2).bind fun r => (frzE r.2 p.1).bind fun d => (intOf d.2 r.1).bind fun t => match d.1, q.1 with
  | .lst xs, .own c => (intsOf xs).bind fun row => some (.deal row c t, d.2)
  | _, _ => none
section
variable {X : Cx} {a b c : Expr} {fr fc ft : Ex} {pos : Pos}
theorem r_deal (ha : PE X a (tE X.K fr)) (hb : PE X b (tE X.K fc)) (hc : PE X c (tE X.K ft)) (h1 : starEach [a, b, c] X.env = (false, eval a X.env) :: starEach [b, c] X.env := by rfl) (h2 : starEach [b, c] X.env = (false, eval b X.env) :: starEach [c] X.env := by rfl)
    (h3 : starEach [c] X.env = (false, eval c X.env) :: starEach [] X.env := by rfl) : PE X (.List [a, b, c] pos) (tE X.K (eDeal fr fc ft)) :=
  PE_imp (pe_lst (pa_cons ha (pa_cons hb (pa_cons hc pa_nil h3) h2) h1)) fun σ H Q h => by
    obtain ⟨ρ, m, F, as, e, m', env, hp, hf, q⟩ := h
    obtain ⟨⟨e1, m1⟩, h1, hf⟩ := bind2 hf
    obtain ⟨⟨e2, m2⟩, h2, hf⟩ := bind2 hf
    obtain ⟨⟨e3, m3⟩, h3, hf⟩ := bind2 hf
    obtain ⟨⟨d, m4⟩, h4, hf⟩ := bind2 hf
    obtain ⟨t, h5, hf⟩ := bind2 hf
    cases d with
    | lst xs =>
      cases e2 with
      | own k =>
        obtain ⟨row, h6, hf⟩ := bind2 hf
        cases hf
        refine estep env hp h1 fun v1 H1 F1 as1 x1 hp1 env1 r1 => estep env1 hp1 h2 fun v2 H2 F2 as2 x2 hp2 env2 r2 => estep env2 hp2 h3 fun v3 H3 F3 as3 x3 hp3 env3 r3 => ?_
        obtain ⟨F4, x4, hp4, r4⟩ := frzE_ok hp3 (r1.ext (x2.trans x3)) h4
        have ev := intOf_rep hp4 (r3.ext x4) h5
        subst ev
        cases r2 with
        | @own ca _ r2 =>
          have rc := pre_get (x3.trans x4).2.1 r2
          rw [intsOf_eq h6] at r4
          cases r4 with
          | @lst r vs _ f1 z1 rr =>
            have evs := rr.ints
            subst evs
            refine ⟨by show 3 ≤ sizeLine; rw [sizeLine_eq]; decide, fun p hn => ?_⟩
            have g := Grow.laid (o := .lst [.ref r, .ref ca, .int t]) hp4.sub hn
            refine q _ _ _ as3 ((x1.trans (x2.trans (x3.trans x4))).trans (hp4.ext g)) (hp4.grow g) (.deal upd_same (g.same hp4.sub _ _ f1) (by rw [List.length_map] at z1; exact z1) rc)
      | _ => cases hf
    | _ => cases hf
end
end PL
/-! PL9: dicts. -/
namespace PL
open PySem PySem.Spec L2
set_option autoImplicit false

section
variable {κ : Type} [DecidableEq κ]
def valD (kvs : List (κ × D)) (k : κ) : Option D := (kvs.find? fun kv => decide (kv.1 = k)).map (·.2)
def putD (kvs : List (κ × D)) (k : κ) (v : D) : List (κ × D) := if (kvs.any fun kv => decide (kv.1 = k)) = true then kvs.map (fun kv => if kv.1 = k then (kv.1, v) else kv) else kvs ++ [(k, v)]
def dropD (kvs : List (κ × D)) (k : κ) : List (κ × D) := kvs.filter fun kv => decide (kv.1 ≠ k)
end
def KP {κ : Type} (K : PySem.W.Frag) (F : Hp) : List (κ × V) → List (κ × D) → Prop := Paired fun p q => p.1 = q.1 ∧ Rep K F p.2 q.2
section
variable {K : PySem.W.Frag} {F : Hp}
theorem KReps.kp : ∀ {vs : List (Key × V)} {ds : List (Key × D)}, KReps K F vs ds → KP K F vs ds
  | _, _, .nil => .nil
  | _, _, .cons a b => .cons ⟨rfl, a⟩ (KReps.kp b)
theorem KP.k : ∀ {vs : List (Key × V)} {ds : List (Key × D)}, KP K F vs ds → KReps K F vs ds
  | _, _, .nil => .nil
  | (k, v) :: _, (k', d) :: _, .cons ⟨h, a⟩ b => by
    have e : k = k' := h
    subst e
    exact .cons a (KP.k b)
theorem TReps.kp : ∀ {vs : List (List Key × V)} {ds : List (List Key × D)}, TReps K F vs ds → KP K F vs ds
  | _, _, .nil => .nil
  | _, _, .cons a b => .cons ⟨rfl, a⟩ (TReps.kp b)
theorem KP.t : ∀ {vs : List (List Key × V)} {ds : List (List Key × D)}, KP K F vs ds → TReps K F vs ds
  | _, _, .nil => .nil
  | (k, v) :: _, (k', d) :: _, .cons ⟨h, a⟩ b => by
    have e : k = k' := h
    subst e
    exact .cons a (KP.t b)
variable {κ : Type} [DecidableEq κ]
theorem KP.len : ∀ {vs : List (κ × V)} {ds : List (κ × D)}, KP K F vs ds → vs.length = ds.length
  | _, _, .nil => rfl
  | _, _, .cons _ b => congrArg (· + 1) (KP.len b)
theorem KP.any (k : κ) : ∀ {vs : List (κ × V)} {ds : List (κ × D)}, KP K F vs ds → (vs.any fun kv => decide (kv.1 = k)) = (ds.any fun kv => decide (kv.1 = k))
  | _, _, .nil => rfl
  | _, _, .cons ⟨h, _⟩ b => by rw [List.any_cons, List.any_cons, KP.any k b, h]
theorem KP.val (k : κ) : ∀ {vs : List (κ × V)} {ds : List (κ × D)}, KP K F vs ds → (valV vs k = none ∧ valD ds k = none) ∨ ∃ v d, valV vs k = some v ∧ valD ds k = some d ∧ Rep K F v d
  | _, _, .nil => .inl ⟨rfl, rfl⟩
  | p :: vs, q :: ds, .cons ⟨h, a⟩ b => by
    by_cases e : p.1 = k
    · refine .inr ⟨p.2, q.2, valV_pos e, ?_, a⟩
      simp [valD, List.find?_cons, ← h, e]
    · rw [valV_neg e]
      have e2 : valD (q :: ds) k = valD ds k := by
        simp only [valD, List.find?_cons]
        rw [show decide (q.1 = k) = false from decide_eq_false (fun z => e (h.trans z))]
      rw [e2]
      exact KP.val k b
theorem KP.app {vs vs' : List (κ × V)} {ds ds' : List (κ × D)} : KP K F vs ds → KP K F vs' ds' → KP K F (vs ++ vs') (ds ++ ds')
  | .nil, h => h
  | .cons a b, h => .cons a (KP.app b h)
theorem KP.mapput (k : κ) {v : V} {d : D} (r : Rep K F v d) : ∀ {vs : List (κ × V)} {ds : List (κ × D)}, KP K F vs ds → KP K F (vs.map fun kv => if kv.1 = k then (kv.1, v) else kv) (ds.map fun kv => if kv.1 = k then (kv.1, d) else kv)
  | _, _, .nil => .nil
  | p :: _, q :: _, .cons ⟨h, a⟩ b => by
    refine .cons ?_ (KP.mapput k r b)
    dsimp only
    by_cases e : p.1 = k
    · rw [if_pos e, if_pos (h.symm.trans e)]
      exact ⟨h, r⟩
    · rw [if_neg e, if_neg (fun z => e (h.trans z))]
      exact ⟨h, a⟩
theorem KP.put (k : κ) {v : V} {d : D} (r : Rep K F v d) {vs : List (κ × V)} {ds : List (κ × D)} (h : KP K F vs ds) : KP K F (putK vs k v) (putD ds k d) := by
  unfold putK putD
  rw [h.any k]
  split
  · exact h.mapput k r
  · exact h.app (.cons ⟨rfl, r⟩ .nil)
theorem KP.drop (k : κ) : ∀ {vs : List (κ × V)} {ds : List (κ × D)}, KP K F vs ds → KP K F (dropK vs k) (dropD ds k)
  | _, _, .nil => .nil
  | p :: vs, q :: ds, .cons ⟨h, a⟩ b => by
    have ih := KP.drop k b
    unfold dropK dropD at ih ⊢
    rw [List.filter_cons, List.filter_cons, h]
    split
    · exact .cons ⟨h, a⟩ ih
    · exact ih
end
def keyOf : D → Option Key
  | .int i => some (.inl i)
  | .str x => some (.inr x)
  | _ => none
def keysOf : List D → Option (List Key)
  | [] => some []
  | d :: r => (keyOf d).bind fun k => (keysOf r).map (k :: ·)
def keyT : D → Option (List Key)
  | .tup ds => keysOf ds
  | _ => none
section
variable {K : PySem.W.Frag} {F H : Hp}
theorem keyOf_rep {v : V} {d : D} {k : Key} (r : Rep K F v d) (h : keyOf d = some k) : v = kV k := by
  cases r <;> first | (cases h; rfl) | cases h
theorem keyOf_repL {v : V} {d : D} {k : Key} (r : RepL K H F v d) (h : keyOf d = some k) : v = kV k := by
  cases r with
  | of r => exact keyOf_rep r h
  | _ => cases h
theorem keysOf_rep : ∀ {vs : List V} {ds : List D} {ks : List Key}, Reps K F vs ds → keysOf ds = some ks → vs = ks.map kV
  | _, _, _, .nil, h => by cases h; rfl
  | _, _, _, .cons a b, h => by
    obtain ⟨k, h1, h⟩ := bind2 h
    obtain ⟨ks, h2, rfl⟩ := Option.map_eq_some_iff.mp h
    rw [keyOf_rep a h1, keysOf_rep b h2]
    rfl
theorem keyT_rep {v : V} {d : D} {k : List Key} (s : FSub F H) (r : RepL K H F v d) (h : keyT d = some k) : ∃ b, v = .ref b ∧ H b = some (.tup (k.map kV)) := by
  cases d with
  | tup ds =>
    obtain ⟨a, vs, rfl, f1, h1, z1, rr⟩ := r.tup s
    rw [keysOf_rep rr h] at h1
    exact ⟨a, rfl, h1⟩
  | _ => cases h
end
/-- what a dict gives for a key: none where the thing is no dict, or no key -/
def dget (d i : D) : Option (Option D) := match d with
  | .dic kvs => (keyOf i).map fun k => valD kvs k
  | .dicT kvs => (keyT i).map fun k => valD kvs k
  | _ => none
theorem dget_rep {K : PySem.W.Frag} {F H : Hp} {v w : V} {d i : D} {o : Option D} (s : FSub F H) (rv : RepL K H F v d) (rw' : RepL K H F w i) (h : dget d i = some o) :
    ∃ a ov, v = .ref a ∧ DGet H a w ov ∧ ((ov = none ∧ o = none) ∨ ∃ x y, ov = some x ∧ o = some y ∧ Rep K F x y) := by
  cases d with
  | dic kvs =>
    obtain ⟨k, h1, rfl⟩ := Option.map_eq_some_iff.mp h
    obtain ⟨a, vs, rfl, h2, h3⟩ := rv.dict s
    exact ⟨a, _, rfl, .inl ⟨vs, k, h2, keyOf_repL rw' h1, rfl⟩, h3.kp.val k⟩
  | dicT kvs =>
    obtain ⟨k, h1, rfl⟩ := Option.map_eq_some_iff.mp h
    obtain ⟨a, vs, rfl, h2, h3⟩ := rv.dictT s
    obtain ⟨b, rfl, h4⟩ := keyT_rep s rw' h1
    exact ⟨a, _, rfl, .inr ⟨vs, k, b, h2, rfl, h4, rfl⟩, h3.kp.val k⟩
  | _ => cases h
def eGetD (fo fi : Ex) : Ex := fun ρ m => (fo ρ m).bind fun p => (fi ρ p.2).bind fun q => (look q.2 p.1).bind fun d => (look q.2 q.1).bind fun i => (dget d i).bind fun o => o.bind fun x => some (.d x, q.2)
def eInD (fi fo : Ex) : Ex := fun ρ m => (fi ρ m).bind fun q => (fo ρ q.2).bind fun p => (look p.2 p.1).bind fun d => (look p.2 q.1).bind fun i => (dget d i).bind fun o => some (.d (.bl o.isSome), p.2)
def eNotInD (fi fo : Ex) : Ex := fun ρ m => (fi ρ m).bind fun q => (fo ρ q.2).bind fun p => (look p.2 p.1).bind fun d => (look p.2 q.1).bind fun i => (dget d i).bind fun o => some (.d (.bl !o.isSome), p.2)
section
variable {X : Cx} {o i : Expr} {fo fi : Ex} {pos : Pos}
theorem r_getD (hu : X.A.units + 1 < cLine) (ho : PE X o (tE X.K fo)) (hi : PE X i (tE X.K fi)) (hs : NoSl i) : PE X (.Subscript o i pos) (tE X.K (eGetD fo fi)) :=
  PE_imp (pe_dget hu ho hi hs) fun σ H Q h => by
    obtain ⟨ρ, m, F, as, e, m', env, hp, hf, q⟩ := h
    obtain ⟨⟨e1, m1⟩, h1, hf⟩ := bind2 hf
    obtain ⟨⟨e2, m2⟩, h2, hf⟩ := bind2 hf
    obtain ⟨d, h3, hf⟩ := bind2 hf
    obtain ⟨k, h4, hf⟩ := bind2 hf
    obtain ⟨ov, h5, hf⟩ := bind2 hf
    obtain ⟨x, h6, hf⟩ := bind2 hf
    cases hf
    refine estep env hp h1 fun v1 H1 F1 as1 x1 hp1 env1 r1 => estep env1 hp1 h2 fun v2 H2 F2 as2 x2 hp2 env2 r2 => ?_
    obtain ⟨a, ow, rfl, g, c⟩ := dget_rep hp2.sub (look_rep hp2 (r1.ext x2) h3) (look_rep hp2 r2 h4) h5
    rcases c with ⟨_, c⟩ | ⟨y, z, c1, c2, c3⟩
    · rw [c] at h6; cases h6
    · rw [c2] at h6
      cases h6
      rw [c1] at g
      exact ⟨a, y, rfl, g, q y H2 F2 as2 (x1.trans x2) hp2 (.d c3)⟩
theorem inD_read : ∀ σ H Q, tE X.K (eInD fi fo) σ H Q → tDIn (tE X.K fi) (tE X.K fo) σ H Q := by
  intro σ H Q h
  obtain ⟨ρ, m, F, as, e, m', env, hp, hf, q⟩ := h
  obtain ⟨⟨e1, m1⟩, h1, hf⟩ := bind2 hf
  obtain ⟨⟨e2, m2⟩, h2, hf⟩ := bind2 hf
  obtain ⟨d, h3, hf⟩ := bind2 hf
  obtain ⟨k, h4, hf⟩ := bind2 hf
  obtain ⟨ov, h5, hf⟩ := bind2 hf
  cases hf
  refine estep env hp h1 fun v1 H1 F1 as1 x1 hp1 env1 r1 => estep env1 hp1 h2 fun v2 H2 F2 as2 x2 hp2 env2 r2 => ?_
  obtain ⟨a, ow, rfl, g, c⟩ := dget_rep hp2.sub (look_rep hp2 r2 h3) (look_rep hp2 (r1.ext x2) h4) h5
  refine ⟨a, ow, rfl, g, ?_⟩
  have e : ow.isSome = ov.isSome := by
    rcases c with ⟨c1, c2⟩ | ⟨y, z, c1, c2, c3⟩ <;> rw [c1, c2] <;> rfl
  rw [e]
  exact q _ H2 F2 as2 (x1.trans x2) hp2 (.d .bl)
theorem notInD_read : ∀ σ H Q, tE X.K (eNotInD fi fo) σ H Q → tDNotIn (tE X.K fi) (tE X.K fo) σ H Q := by
  intro σ H Q h
  obtain ⟨ρ, m, F, as, e, m', env, hp, hf, q⟩ := h
  obtain ⟨⟨e1, m1⟩, h1, hf⟩ := bind2 hf
  obtain ⟨⟨e2, m2⟩, h2, hf⟩ := bind2 hf
  obtain ⟨d, h3, hf⟩ := bind2 hf
  obtain ⟨k, h4, hf⟩ := bind2 hf
  obtain ⟨ov, h5, hf⟩ := bind2 hf
  cases hf
  refine estep env hp h1 fun v1 H1 F1 as1 x1 hp1 env1 r1 => estep env1 hp1 h2 fun v2 H2 F2 as2 x2 hp2 env2 r2 => ?_
  obtain ⟨a, ow, rfl, g, c⟩ := dget_rep hp2.sub (look_rep hp2 r2 h3) (look_rep hp2 (r1.ext x2) h4) h5
  refine ⟨a, ow, rfl, g, ?_⟩
  have e : ow.isSome = ov.isSome := by
    rcases c with ⟨c1, c2⟩ | ⟨y, z, c1, c2, c3⟩ <;> rw [c1, c2] <;> rfl
  rw [e]
  exact q _ H2 F2 as2 (x1.trans x2) hp2 (.d .bl)
theorem r_inD (hu : X.A.units + 1 < cLine) (hi : PE X i (tE X.K fi)) (ho : PE X o (tE X.K fo)) (hb : behindInMarks .In o = false := by rfl) : PE X (.Compare i [.In] [o] pos) (tE X.K (eInD fi fo)) := PE_imp (pe_cmp (pc_din hu hi ho) hb) inD_read
theorem r_notInD (hu : X.A.units + 1 < cLine) (hi : PE X i (tE X.K fi)) (ho : PE X o (tE X.K fo)) (hb : behindInMarks .NotIn o = false := by rfl) : PE X (.Compare i [.NotIn] [o] pos) (tE X.K (eNotInD fi fo)) := PE_imp (pe_cmp (pc_dnotin hu hi ho) hb) notInD_read
theorem r_inDT (hu : X.A.units + 1 < cLine) (hi : PE X i (tE X.K fi)) (ho : PE X o (tE X.K fo)) (hb : behindInMarks .In o = false := by rfl) : PT X (.Compare i [.In] [o] pos) (tT X.K (tOf (eInD fi fo))) := PT_imp (pt_cmp (pc_din hu hi ho) hb) (test_read inD_read)
theorem r_notInDT (hu : X.A.units + 1 < cLine) (hi : PE X i (tE X.K fi)) (ho : PE X o (tE X.K fo)) (hb : behindInMarks .NotIn o = false := by rfl) : PT X (.Compare i [.NotIn] [o] pos) (tT X.K (tOf (eNotInD fi fo))) := PT_imp (pt_cmp (pc_dnotin hu hi ho) hb) (test_read notInD_read)
end
/-! ### dicts that are made and written -/
def eDicO : Ex := fun _ m => some (.own m.length, m ++ [.dic []])
def eDicTO : Ex := fun _ m => some (.own m.length, m ++ [.dicT []])
def eDic0 : Ex := fun _ m => some (.d (.dic []), m)
section
variable {X : Cx} {pos : Pos}
theorem r_dicO : PE X (.Dict [] [] pos) (tE X.K eDicO) := PE_imp pe_dnewK fun σ H Q h p hn => by
  obtain ⟨ρ, m, F, as, e, m', env, hp, hf, q⟩ := h
  cases hf
  refine q _ _ F ⟨as.c ++ [p], as.g⟩ ⟨Same.refl _, pre_snoc _ _, rfl⟩ (hp.cellNew hn ⟨hp.sub.free hn, [], upd_same, .nil⟩) (.own ?_)
  rw [← hp.len]
  simp
theorem r_dicTO : PE X (.Dict [] [] pos) (tE X.K eDicTO) := PE_imp pe_dnewT fun σ H Q h p hn => by
  obtain ⟨ρ, m, F, as, e, m', env, hp, hf, q⟩ := h
  cases hf
  refine q _ _ F ⟨as.c ++ [p], as.g⟩ ⟨Same.refl _, pre_snoc _ _, rfl⟩ (hp.cellNew hn ⟨hp.sub.free hn, [], upd_same, .nil⟩) (.own ?_)
  rw [← hp.len]
  simp
theorem r_dic0 : PE X (.Dict [] [] pos) (tE X.K eDic0) := PE_imp pe_dnewK fun σ H Q h p hn => by
  obtain ⟨ρ, m, F, as, e, m', env, hp, hf, q⟩ := h
  cases hf
  have g := Grow.laid (o := .dK []) hp.sub hn
  exact q _ _ _ as (hp.ext g) (hp.grow g) (.d (.dic upd_same .nil))
end
/-- d[k] = v -/
def sPutD (fo fi fv : Ex) : Sx := fun ρ m => (fv ρ m).bind fun p => (fo ρ p.2).bind fun q => (fi ρ q.2).bind fun r => match q.1 with
  | .own c => (look r.2 r.1).bind fun i => (frzE r.2 p.1).bind fun d => match d.2[c]? with
    | some (.dic kvs) => (keyOf i).bind fun k => if kvs.length < big then some (.nx, ρ, d.2.set c (.dic (putD kvs k d.1))) else none
    | some (.dicT kvs) => (keyT i).bind fun k => if kvs.length < big then some (.nx, ρ, d.2.set c (.dicT (putD kvs k d.1))) else none
    | _ => none
  | _ => none
/-- del d[k] -/
def sDelD (fo fi : Ex) : Sx := fun ρ m => (fo ρ m).bind fun q => (fi ρ q.2).bind fun r => match q.1 with
  | .own c => (look r.2 r.1).bind fun i => match r.2[c]? with
    | some (.dic kvs) => (keyOf i).bind fun k => if (valD kvs k).isSome = true then some (.nx, ρ, r.2.set c (.dic (dropD kvs k))) else none
    | _ => none
  | _ => none
section
variable {X : Cx} {o i e : Expr} {fo fi fv : Ex} {pos pos' : Pos}
theorem r_putD (hu : X.A.units + 1 < cLine) (ho : PE X o (tE X.K fo)) (hi : PE X i (tE X.K fi)) (hv : PE X e (tE X.K fv)) (hs : swapsWith e (some (.Subscript o i pos')) pos.line X.env = pure false) : PS X (.Assign [.Subscript o i pos'] e pos) (tS X.K (sPutD fo fi fv)) :=
  PS_imp (ps_dput hu ho hi hv hs) fun D σ H h => by
    obtain ⟨ρ, m, F, as, fl, ρ', m', env, hp, hf, q⟩ := h
    obtain ⟨⟨e1, m1⟩, g1, hf⟩ := bind2 hf
    obtain ⟨⟨e2, m2⟩, g2, hf⟩ := bind2 hf
    obtain ⟨⟨e3, m3⟩, g3, hf⟩ := bind2 hf
    cases e2 with
    | own c =>
      obtain ⟨k, g4, hf⟩ := bind2 hf
      obtain ⟨⟨d, m4⟩, g5, hf⟩ := bind2 hf
      refine estep env hp g1 fun v1 H1 F1 as1 x1 hp1 env1 r1 => estep env1 hp1 g2 fun v2 H2 F2 as2 x2 hp2 env2 r2 => estep env2 hp2 g3 fun v3 H3 F3 as3 x3 hp3 env3 r3 => ?_
      obtain ⟨F4, x4, hp4, r4⟩ := frzE_ok hp3 (r1.ext (x2.trans x3)) g5
      have r3' := look_rep hp3 r3 g4
      cases r2 with
      | @own a _ r2 =>
        have ra := pre_get x3.2.1 r2
        have xx := x1.trans (x2.trans (x3.trans x4))
        cases w : m4[c]? with
        | none => simp only [w] at hf; cases hf
        | some ob =>
          have y := hp4.cell c a ob ra w
          cases ob with
          | dic kvs =>
            simp only [w] at hf
            obtain ⟨ky, g6, hf⟩ := bind2 hf
            split at hf
            · rename_i z
              cases hf
              obtain ⟨f1, vs, g7, rv⟩ := y
              refine ⟨a, _, rfl, .inl ⟨vs, ky, g7, keyOf_repL r3' g6, by rw [rv.length]; exact big_lt z, rfl⟩, ?_⟩
              exact q σ _ F4 as3 xx (env3.ext x4) (hp4.write ra f1 ⟨f1, _, upd_same, (rv.kp.put ky r4).k⟩)
            · cases hf
          | dicT kvs =>
            simp only [w] at hf
            obtain ⟨ky, g6, hf⟩ := bind2 hf
            split at hf
            · rename_i z
              cases hf
              obtain ⟨f1, vs, g7, rv⟩ := y
              obtain ⟨b, rfl, g8⟩ := keyT_rep hp3.sub r3' g6
              refine ⟨a, _, rfl, .inr ⟨vs, ky, b, g7, rfl, g8, by rw [rv.kp.len]; exact big_lt z, rfl⟩, ?_⟩
              exact q σ _ F4 as3 xx (env3.ext x4) (hp4.write ra f1 ⟨f1, _, upd_same, (rv.kp.put ky r4).t⟩)
            · cases hf
          | lst _ => simp only [w] at hf; cases hf
          | frz _ => simp only [w] at hf; cases hf
    | _ => cases hf
theorem r_delD (ho : PE X o (tE X.K fo)) (hi : PE X i (tE X.K fi)) : PS X (.Delete [.Subscript o i pos'] pos) (tS X.K (sDelD fo fi)) :=
  PS_imp (ps_ddel ho hi) fun D σ H h => by
    obtain ⟨ρ, m, F, as, fl, ρ', m', env, hp, hf, q⟩ := h
    obtain ⟨⟨e2, m2⟩, g2, hf⟩ := bind2 hf
    obtain ⟨⟨e3, m3⟩, g3, hf⟩ := bind2 hf
    cases e2 with
    | own c =>
      obtain ⟨k, g4, hf⟩ := bind2 hf
      refine estep env hp g2 fun v2 H2 F2 as2 x2 hp2 env2 r2 => estep env2 hp2 g3 fun v3 H3 F3 as3 x3 hp3 env3 r3 => ?_
      have r3' := look_rep hp3 r3 g4
      cases r2 with
      | @own a _ r2 =>
        have ra := pre_get x3.2.1 r2
        cases w : m3[c]? with
        | none => simp only [w] at hf; cases hf
        | some ob =>
          have y := hp3.cell c a ob ra w
          cases ob with
          | dic kvs =>
            simp only [w] at hf
            obtain ⟨ky, g6, hf⟩ := bind2 hf
            split at hf
            · rename_i z
              cases hf
              obtain ⟨f1, vs, g7, rv⟩ := y
              have ek := keyOf_repL r3' g6
              refine ⟨a, vs, ky, rfl, g7, ek, ?_, ?_⟩
              · rcases rv.kp.val ky with ⟨_, c2⟩ | ⟨_, _, c1, _⟩
                · rw [c2] at z; cases z
                · rw [c1]; rfl
              · exact q σ _ F3 as3 (x2.trans x3) env3 (hp3.write ra f1 ⟨f1, _, upd_same, (rv.kp.drop ky).k⟩)
            · cases hf
          | dicT _ => simp only [w] at hf; cases hf
          | lst _ => simp only [w] at hf; cases hf
          | frz _ => simp only [w] at hf; cases hf
    | _ => cases hf
end
end PL
/-! PL10: dict comprehensions; the end of a law. -/
namespace PL
open PySem PySem.Spec L2
set_option autoImplicit false

def dcLoop (g : Tg) (tt : Tx) (tk tv : Ex) (ρ : Rho) : List D → List (Key × D) → Store → Option (List (Key × D) × Store)
  | [], acc, m => some (acc, m)
  | x :: xs, acc, m => (g (.d x) ρ).bind fun ρ1 => (tt ρ1 m).bind fun b => if b.1 = true then (tk ρ1 b.2).bind fun y => (tv ρ1 y.2).bind fun z => (look z.2 y.1).bind fun ky => (keyOf ky).bind fun k => (frzE z.2 z.1).bind fun d => if acc.length < big then dcLoop g tt tk tv ρ xs (putD acc k d.1) d.2 else none
    else dcLoop g tt tk tv ρ xs acc b.2
def eDc (it : Ix) (vs : List Nat) (g : Tg) (tt : Tx) (tk tv : Ex) : Ex := fun ρ m => (it ρ m).bind fun p => (dcLoop g tt tk tv (wipeE ρ vs) p.1 [] p.2).bind fun r => some (.d (.dic r.1), r.2)
def eDcO (it : Ix) (vs : List Nat) (g : Tg) (tt : Tx) (tk tv : Ex) : Ex := fun ρ m => (it ρ m).bind fun p => (dcLoop g tt tk tv (wipeE ρ vs) p.1 [] p.2).bind fun r => some (.own r.2.length, r.2 ++ [.dic r.1])
section
variable {K : PySem.W.Frag} {F H : Hp} {c : List Addr} {g : List (Addr × HO)} {m : Store} {L : Addr} {ho : HO}
/-- the made thing is written -/
theorem prot_write (hp : HeapOk K H F ⟨c, (L, ho) :: g⟩ m) (ho' : HO) : HeapOk K (upd H L ho') F ⟨c, (L, ho') :: g⟩ m := by
  obtain ⟨p1, p2, p3⟩ := hp.prot (L, ho) List.mem_cons_self
  refine ⟨fun a u q => ?_, hp.len, hp.nd, fun a q => ?_, fun c' a u q1 q2 => ?_, fun p hq => ?_, hp.pnd⟩
  · rw [upd_ne (fun z => by rw [z, p2] at q; cases q)]; exact hp.sub a u q
  · rw [upd_ne (fun z => p3 (by rw [← z]; exact q))]; exact hp.there a q
  · have na : a ≠ L := fun z => p3 (by rw [← z]; exact List.mem_of_getElem? q1)
    have z := hp.cell c' a u q1 q2
    cases u with
    | lst ds => obtain ⟨y1, z, vs, y2, y3⟩ := z; exact ⟨y1, z, vs, by rw [upd_ne na]; exact y2, y3⟩
    | dic ds => obtain ⟨y1, vs, y2, y3⟩ := z; exact ⟨y1, vs, by rw [upd_ne na]; exact y2, y3⟩
    | dicT ds => obtain ⟨y1, vs, y2, y3⟩ := z; exact ⟨y1, vs, by rw [upd_ne na]; exact y2, y3⟩
    | frz d => exact z
  · rcases List.mem_cons.mp hq with rfl | hq
    · exact ⟨upd_same, p2, p3⟩
    · obtain ⟨q1, q2, q3⟩ := hp.prot p (List.mem_cons_of_mem _ hq)
      have np : p.1 ≠ L := fun z => (List.nodup_cons.mp hp.pnd).1 (List.mem_map.mpr ⟨p, hq, z⟩)
      exact ⟨by rw [upd_ne np]; exact q1, q2, q3⟩
/-- a new thing is protected -/
theorem prot_new {as : Cs} (hp : HeapOk K H F as m) (hD : H L = none) : HeapOk K (upd H L ho) F ⟨as.c, (L, ho) :: as.g⟩ m := by
  have ne : ∀ a, H a ≠ none → a ≠ L := fun a q z => q (by rw [z]; exact hD)
  have nc : L ∉ as.c := fun z => hp.there L z hD
  refine ⟨fun a u q => by rw [upd_ne (ne a (hp.sub.there q))]; exact hp.sub a u q, hp.len, hp.nd, fun a q => by rw [upd_ne (ne a (hp.there a q))]; exact hp.there a q, fun c a u q1 q2 => ?_, fun p hq => ?_, ?_⟩
  · have na := ne a (hp.there a (List.mem_of_getElem? q1))
    have z := hp.cell c a u q1 q2
    cases u with
    | lst ds => obtain ⟨y1, z, vs, y2, y3⟩ := z; exact ⟨y1, z, vs, by rw [upd_ne na]; exact y2, y3⟩
    | dic ds => obtain ⟨y1, vs, y2, y3⟩ := z; exact ⟨y1, vs, by rw [upd_ne na]; exact y2, y3⟩
    | dicT ds => obtain ⟨y1, vs, y2, y3⟩ := z; exact ⟨y1, vs, by rw [upd_ne na]; exact y2, y3⟩
    | frz d => exact z
  · rcases List.mem_cons.mp hq with rfl | hq
    · exact ⟨upd_same, hp.sub.free hD, nc⟩
    · obtain ⟨p1, p2, p3⟩ := hp.prot p hq
      exact ⟨by rw [upd_ne (ne p.1 (by rw [p1]; simp))]; exact p1, p2, p3⟩
  · show (L :: as.g.map (·.1)).Nodup
    refine List.nodup_cons.mpr ⟨fun z => ?_, hp.pnd⟩
    obtain ⟨p, hq, e⟩ := List.mem_map.mp z
    have e1 := (hp.prot p hq).1
    rw [e, hD] at e1
    cases e1
/-- the made thing becomes data -/
theorem prot_frz (hp : HeapOk K H F ⟨c, (L, ho) :: g⟩ m) : Same F (upd F L ho) ∧ HeapOk K H (upd F L ho) ⟨c, g⟩ m := by
  obtain ⟨p1, p2, p3⟩ := hp.prot (L, ho) List.mem_cons_self
  have sm : Same F (upd F L ho) := Same.updF p2
  refine ⟨sm, ⟨fun b u q => ?_, hp.len, hp.nd, hp.there, fun c' b u q1 q2 => ?_, fun p hq => ?_, (List.nodup_cons.mp hp.pnd).2⟩⟩
  · by_cases e : b = L
    · subst e
      rw [upd_same] at q
      cases q
      exact .inl p1
    · rw [upd_ne e] at q
      exact hp.sub b u q
  · have nb : b ≠ L := fun z => p3 (by rw [← z]; exact List.mem_of_getElem? q1)
    have y := hp.cell c' b u q1 q2
    cases u with
    | lst ds => obtain ⟨y1, z, vs, y2, y3⟩ := y; exact ⟨by rw [upd_ne nb]; exact y1, z, vs, y2, y3.mono sm⟩
    | dic ds => obtain ⟨y1, vs, y2, y3⟩ := y; exact ⟨by rw [upd_ne nb]; exact y1, vs, y2, y3.mono sm⟩
    | dicT ds => obtain ⟨y1, vs, y2, y3⟩ := y; exact ⟨by rw [upd_ne nb]; exact y1, vs, y2, y3.mono sm⟩
    | frz d' => exact Rep.mono sm y
  · obtain ⟨q1, q2, q3⟩ := hp.prot p (List.mem_cons_of_mem _ hq)
    exact ⟨q1, by rw [upd_ne (fun z => (List.nodup_cons.mp hp.pnd).1 (List.mem_map.mpr ⟨p, hq, z⟩))]; exact q2, q3⟩
/-- .. a cell -/
theorem prot_cell {o : O} (hp : HeapOk K H F ⟨c, (L, ho) :: g⟩ m) (y : CellOk K H F L o) : HeapOk K H F ⟨c ++ [L], g⟩ (m ++ [o]) := by
  obtain ⟨p1, p2, p3⟩ := hp.prot (L, ho) List.mem_cons_self
  have hl : c.length = m.length := hp.len
  refine ⟨hp.sub, by show (c ++ [L]).length = _; rw [List.length_append, List.length_append, hl]; rfl, ?_, fun a q => ?_, fun c' b u q1 q2 => ?_, fun p hq => ?_, (List.nodup_cons.mp hp.pnd).2⟩
  · show (c ++ [L]).Nodup
    rw [List.nodup_append]
    refine ⟨hp.nd, by simp, fun a ha b hb => ?_⟩
    have e : b = L := by simpa using hb
    rw [e]
    exact fun z => p3 (by rw [← z]; exact ha)
  · rcases List.mem_append.mp q with q | q
    · exact hp.there a q
    · have e : a = L := by simpa using q
      rw [e, p1]; simp
  · have q1 : (c ++ [L])[c']? = some b := q1
    by_cases hc : c' < c.length
    · rw [List.getElem?_append_left hc] at q1
      rw [List.getElem?_append_left (by rw [← hl]; exact hc)] at q2
      exact hp.cell c' b u q1 q2
    · rw [List.getElem?_append_right (by omega)] at q1
      rw [List.getElem?_append_right (by rw [← hl]; omega)] at q2
      rw [← hl] at q2
      cases k : c' - c.length with
      | zero =>
        rw [k] at q1 q2
        simp at q1 q2
        subst q1 q2
        exact y
      | succ j => rw [k] at q1; simp at q1
  · obtain ⟨q1, q2, q3⟩ := hp.prot p (List.mem_cons_of_mem _ hq)
    refine ⟨q1, q2, fun z => ?_⟩
    rcases List.mem_append.mp z with z | z
    · exact q3 z
    · exact (List.nodup_cons.mp hp.pnd).1 (List.mem_map.mpr ⟨p, hq, by simpa using z⟩)
end
theorem dc_main {K : PySem.W.Frag} {J : It} {g : TG} {tg : Tg} {tt : Tx} {tk tv : Ex} {vs : List Nat} {σ : L2.St} {H F : Hp} {as : Cs} {m m' : Store} {ρ : Rho} {xs : List D} {ds : List (Key × D)} {L : Addr} {Q : VK}
    (hg : TgOk K g tg vs) (env : EnvOk K F as σ ρ) (hp : HeapOk K H F as m) (wk : Walks K J F xs) (hf : dcLoop tg tt tk tv (wipeE ρ vs) xs [] m = some (ds, m')) (hD : H L = none)
    (q : ∀ (H' F' : Hp) (c' : List Addr) (vs' : List (Key × V)), Same F F' → as.c <+: c' → KReps K F' vs' ds → HeapOk K H' F' ⟨c', (L, .dK vs') :: as.g⟩ m' → Q (.ref L) H') :
    ∃ W : Nat → Nat → Hp → Prop, (∃ n, W 0 n (upd H L (.dK []))) ∧ ∀ i n H, W i n H →
  (J.stop i H ∧ Q (.ref L) H) ∨ (J.go i H ∧ ∃ Nx : Hp → Prop, (∀ H', Nx H' → ∃ n', n' < n ∧ W (i + 1) n' H') ∧ ∀ x H', J.yld i H x H' → g x (wipe σ vs) H' fun σ2 H2 => wipe σ2 vs = wipe σ vs ∧ tT K tt σ2 H2 fun b H3 =>
    if b = true then tE K tk σ2 H3 fun y H4 => tE K tv σ2 H4 fun z H5 => ∃ kvs k, y = kV k ∧ H5 L = some (.dK kvs) ∧ kvs.length < sizeLine ∧ Nx (upd H5 L (.dK (putK kvs k z))) else Nx H3) := by
  refine ⟨fun i n H1 => n = xs.length - i ∧ i ≤ xs.length ∧ ∃ (F1 : Hp) (c1 : List Addr) (m1 : Store) (acc : List (Key × V)) (d1 : List (Key × D)), Same F F1 ∧ as.c <+: c1 ∧ KReps K F1 acc d1 ∧ HeapOk K H1 F1 ⟨c1, (L, .dK acc) :: as.g⟩ m1 ∧ dcLoop tg tt tk tv (wipeE ρ vs) (xs.drop i) d1 m1 = some (ds, m'),
    ⟨_, rfl, Nat.zero_le _, F, as.c, m, [], [], Same.refl F, List.prefix_refl _, .nil, prot_new hp hD, hf⟩, ?_⟩
  rintro i n H1 ⟨rfl, hi, F1, c1, m1, acc, d1, s1, pc, ra, hp1, hl⟩
  obtain ⟨w1, w2⟩ := wk F1 _ m1 H1 s1 hp1 i
  by_cases hlt : i < xs.length
  · obtain ⟨hgo, hy⟩ := w2 xs[i] (List.getElem?_eq_getElem hlt)
    refine .inr ⟨hgo, fun H' => ∃ (F1 : Hp) (c1 : List Addr) (m1 : Store) (acc : List (Key × V)) (d1 : List (Key × D)), Same F F1 ∧ as.c <+: c1 ∧ KReps K F1 acc d1 ∧ HeapOk K H' F1 ⟨c1, (L, .dK acc) :: as.g⟩ m1 ∧ dcLoop tg tt tk tv (wipeE ρ vs) (xs.drop (i + 1)) d1 m1 = some (ds, m'),
      fun H' h => ⟨_, by omega, rfl, hlt, h⟩, fun x H' hx => ?_⟩
    obtain ⟨F2, gr, rx⟩ := hy x H' hx
    have hp2 := hp1.grow gr
    have s2 := gr.same hp1.sub
    have env2 : EnvOk K F2 ⟨c1, (L, .dK acc) :: as.g⟩ (wipe σ vs) (wipeE ρ vs) := by
      refine ⟨(env.wipe vs).len, fun j e h => ?_⟩
      obtain ⟨v, a, b⟩ := (env.wipe vs).get j e h
      refine ⟨v, a, ?_⟩
      have sm := s1.trans s2
      cases b with
      | d r => exact .d (r.mono sm)
      | own r => exact .own (pre_get pc r)
      | deal d1 d2 z d3 => exact .deal (sm _ _ d1) (sm _ _ d2) z (pre_get pc d3)
    rw [List.drop_eq_getElem_cons hlt] at hl
    obtain ⟨ρ1, h1, hl⟩ := bind2 hl
    obtain ⟨⟨b, m2⟩, h2, hl⟩ := bind2 hl
    refine hg.run env2 hp2 (.d rx) h1 fun σ' env3 l3 s3 => ⟨wipe_eq l3 s3, ?_⟩
    refine tstep env3 hp2 h2 fun H3 F3 as3 x3 hp3 env4 => ?_
    obtain ⟨c3, g3⟩ := as3
    obtain ⟨x31, x32, x33⟩ := x3
    have eg : g3 = (L, .dK acc) :: as.g := x33
    subst eg
    cases b with
    | false => exact ⟨F3, c3, m2, acc, d1, (s1.trans s2).trans x31, pc.trans x32, (ra.mono s2).mono x31, hp3, hl⟩
    | true =>
      obtain ⟨⟨y, m3⟩, h3, hl⟩ := bind2 hl
      obtain ⟨⟨z, m4⟩, h4, hl⟩ := bind2 hl
      obtain ⟨ky, h5, hl⟩ := bind2 hl
      obtain ⟨k, h6, hl⟩ := bind2 hl
      obtain ⟨⟨d, m5⟩, h7, hl⟩ := bind2 hl
      split at hl
      · rename_i hz
        refine estep env4 hp3 h3 fun yv H4 F4 as4 x4 hp4 env5 ry => estep env5 hp4 h4 fun zv H5 F5 as5 x5 hp5 env6 rz => ?_
        have rk := look_rep hp5 (ry.ext x5) h5
        obtain ⟨c5, g5⟩ := as5
        obtain ⟨x51, x52, x53⟩ := x4.trans x5
        have eg : g5 = (L, .dK acc) :: as.g := x53
        subst eg
        obtain ⟨F6, x6, hp6, rd⟩ := frzE_ok hp5 rz h7
        have sF : Same F1 F6 := ((s2.trans x31).trans x51).trans x6.1
        have pr := hp6.prot (L, .dK acc) List.mem_cons_self
        refine ⟨acc, k, keyOf_repL rk h6, pr.1, by rw [ra.length]; exact big_lt hz, F6, c5, m5, putK acc k zv, putD d1 k d, s1.trans sF, (pc.trans x32).trans x52, ((ra.mono sF).kp.put k rd).k, prot_write hp6 _, hl⟩
      · cases hl
  · have e : i = xs.length := by omega
    subst e
    rw [List.drop_length] at hl
    cases hl
    exact .inl ⟨w1 (Nat.le_refl _), q H1 F1 c1 acc s1 pc ra hp1⟩
section
variable {X : Cx} {scope : Scope} {own : List (Str × Nat)} {it : Ix} {g : TG} {tgm : Tg} {tt : Tx} {tk tv : Ex}
theorem dc_read (hg : TgOk X.K g tgm (own.map (·.2))) : ∀ σ H Q, tE X.K (eDc it (own.map (·.2)) tgm tt tk tv) σ H Q → tDc (tI X.K it) g (tT X.K tt) (tE X.K tk) (tE X.K tv) (own.map (·.2)) σ H Q := by
  intro σ H Q h
  obtain ⟨ρ, m, F, as, e, m', env, hp, hf, q⟩ := h
  obtain ⟨⟨xs, m1⟩, h1, hf⟩ := bind2 hf
  obtain ⟨⟨ds, m2⟩, h2, hf⟩ := bind2 hf
  cases hf
  refine ⟨ρ, m, F, as, xs, m1, env, hp, h1, fun J H1 F1 as1 x1 hp1 wk L hL => ?_⟩
  refine dc_main hg (env.ext x1) hp1 wk h2 hL fun H2 F2 c2 vs2 s2 p2 r2 hp2 => ?_
  obtain ⟨s3, hp3⟩ := prot_frz hp2
  exact q _ _ _ ⟨c2, as1.g⟩ (x1.trans ⟨s2.trans s3, p2, rfl⟩) hp3 (.d (.dic upd_same (r2.mono s3)))
theorem dcO_read (hg : TgOk X.K g tgm (own.map (·.2))) : ∀ σ H Q, tE X.K (eDcO it (own.map (·.2)) tgm tt tk tv) σ H Q → tDc (tI X.K it) g (tT X.K tt) (tE X.K tk) (tE X.K tv) (own.map (·.2)) σ H Q := by
  intro σ H Q h
  obtain ⟨ρ, m, F, as, e, m', env, hp, hf, q⟩ := h
  obtain ⟨⟨xs, m1⟩, h1, hf⟩ := bind2 hf
  obtain ⟨⟨ds, m2⟩, h2, hf⟩ := bind2 hf
  cases hf
  refine ⟨ρ, m, F, as, xs, m1, env, hp, h1, fun J H1 F1 as1 x1 hp1 wk L hL => ?_⟩
  refine dc_main hg (env.ext x1) hp1 wk h2 hL fun H2 F2 c2 vs2 s2 p2 r2 hp2 => ?_
  obtain ⟨p1, p3, p4⟩ := hp2.prot (L, .dK vs2) List.mem_cons_self
  refine q _ _ _ ⟨c2 ++ [L], as1.g⟩ (x1.trans ⟨s2, p2.trans (pre_snoc _ _), rfl⟩) (prot_cell hp2 ⟨p3, vs2, p1, r2⟩) (.own ?_)
  have e := hp2.len
  show (c2 ++ [L])[m2.length]? = some L
  rw [← e]
  simp
end
/-! ### the end of a law -/
def spLaw : PySem.W.Frag → Sp := fun K vs H Q _ => ∃ (a : Addr) (ns : List Int), vs = [.ref a] ∧ SqL K H a (ns.map V.int) ∧ ns.length ≤ 63 ∧ ∀ H', Q (.bl true) H'
theorem law_imp {K : PySem.W.Frag} {f : Fx} (h : ∀ ns : List Int, ns.length ≤ 63 → ∃ m', f [.d (.scr ns)] [] = some (.d (.bl true), m')) : ∀ vs H Q E, spLaw K vs H Q E → spD K 1 f vs H Q E := by
  rintro vs H Q E ⟨a, ns, rfl, hS, hl, q⟩
  obtain ⟨m', hf⟩ := h ns hl
  refine ⟨rfl, [.d (.scr ns)], [], H, ⟨[], []⟩, _, m', .cons (.d (.scr hS (by rw [sizeLine_eq]; omega))) .nil, ⟨fun a o h => .inl h, rfl, List.nodup_nil, fun a h => (nomatch h), fun c a o h => by simp at h, fun p h => (nomatch h), List.nodup_nil⟩, hf, fun v H' F' as' x hp r => ?_⟩
  cases r with
  | d r => cases r; exact q H'
end PL
/-! PL11: the rules in the forms that a printed derivation takes. -/
namespace PL
open PySem PySem.Spec L2
set_option autoImplicit false
@[irreducible] def wN : Nat := 1000000
theorem wN_big : wN = 1000000 := by unfold wN; rfl
section
variable {X : Cx} {x : Str} {pos pos' : Pos} {e tg iter : Expr} {f : Ex} {it : Ix} {body : List Stmt} {fb : Sx}
theorem r_glob {v : V} {d : D} (hg : Gl X x) (hm : ∃ u, X.mg x = some u ∧ RelV v u) (r : ∀ F : Hp, Rep X.K F v d) (hd : (x == ("__debug__" : Str)) = false := by decide) : PE X (.Name x pos) (tE X.K (eC d)) := by
  obtain ⟨u, h1, h2⟩ := hm
  exact r_const (pe_glob hg h1 h2 hd) r
theorem r_set {i : Nat} (hN : X.N.Nodup) (hi : X.N[i]? = some x) (hx : Loc X.env.scope x) (he : PE X e (tE X.K f)) (hs : swapsWith e (some (.Name x pos')) pos.line X.env = pure false) (hf : X.fn x = true ∨ X.env.scope.names.lookup x = some .local) :
    PS X (.Assign [.Name x pos'] e pos) (tS X.K (sSet i f)) := PS_imp (ps_set hN hi hx he hs hf) (asg_read (tgOk_name (vs := [i]) (List.mem_singleton.mpr rfl)))
theorem r_asgT {es : List Expr} {k : Nat} {is : List Nat} {tpos : Pos} (hc : X.calm = true) (he : PE X e (tE X.K f)) (hg : PGs X es (gNames is)) (hn : (assignEach es X.env).length = is.length := by rfl) (hst : (assignEach es X.env).findIdx? (·.1) = none := by rfl)
    (hs : swapsWithSole [.Tuple es k tpos] e pos.line X.env = pure false := by rfl) (hw : swappedStores [.Tuple es k tpos] e X.env = pure none := by rfl)
    (h1 : (assignEach [.Tuple es k tpos] X.env).map (·.2) = [assign (.Tuple es k tpos) X.env] := by rfl) : PS X (.Assign [.Tuple es k tpos] e pos) (tS X.K (sAsg f (tgTup is))) :=
  PS_imp (ps_asg he (pg_tup hc hg hn hst) hs hw h1) (asg_read (tgOk_tup rfl fun i hi => hi))
theorem r_for {gt : TG} {tgm : Tg} {vs : List Nat} (hp : PassesOwn (model X.prog X.w) X.A X.env X.xe) (hc : X.calm = true) (hi : PI X tg iter (tI X.K it)) (hg : PG X tg gt) (ht : TgOk X.K gt tgm vs) (hb : PSs X body (tS X.K fb)) (hs : ∀ x, foldedSetIterable iter X.env x = pure x := by intro _; rfl) :
    PS X (.For tg iter body [] pos) (tS X.K (sFor it tgm fb)) := PS_imp (ps_for hp hc hi hg hb hs) (for_read ht)
theorem r_while {c : Expr} {ft : Tx} {N : Nat} (hp : PassesOwn (model X.prog X.w) X.A X.env X.xe) (hc : PT X c (tT X.K ft)) (hb : PSs X body (tS X.K fb)) : PS X (.While c body [] pos) (tS X.K (sWhile N ft fb)) := PS_imp (ps_while hp hc hb) while_read
/-- a target of names -/
theorem g_tup {es : List Expr} {k : Nat} {is : List Nat} {tpos : Pos} (hc : X.calm = true) (h : PGs X es (gNames is)) (hn : (assignEach es X.env).length = is.length := by rfl) (hst : (assignEach es X.env).findIdx? (·.1) = none := by rfl) : PG X (.Tuple es k tpos) (gTup X.K is.length (gNames is)) := pg_tup hc h hn hst
theorem PTs_imp {X : Cx} {ifs : List Expr} {t t' : TT} (h : PTs X ifs t) (i : ∀ σ H Q, t' σ H Q → t σ H Q) : PTs X ifs t' := ⟨fun pins s σ H Q I q => h.run pins s σ H Q I (i σ H Q q)⟩
theorem r_ifs0 : PTs X [] (tT X.K tTrue) := PTs_imp pts_nil fun σ H Q h => by
  obtain ⟨ρ, m, F, as, b, m', env, hp, hf, q⟩ := h
  cases hf
  exact q H F as .refl hp
theorem r_ifs1 {c : Expr} {ft : Tx} (h : PT X c (tT X.K ft)) : PTs X [c] (tT X.K ft) := pts_one h
section
variable {elt kx vx : Expr} {ifs : List Expr} {scope : Scope} {own : List (Str × Nat)} {gt : TG} {tgm : Tg} {tt : Tx} {te tk tv : Ex} {spos py : Pos} {y : Str}
theorem r_lc (hc : X.calm = true) (hN : X.N.Nodup) (hi : PI X tg iter (tI X.K it)) (ok : BlkOk X.N X.env.scope scope own) (hgt : TgOk X.K gt tgm (own.map (·.2)))
    (hg : ∀ (s : Shared) (H : Hp) (C : Addr) (cl : List (Str × Addr)) (fp : List Addr), PG (X.blk s H scope (PySem.compEnvC scope cl C X.env) fp) tg gt) (ht : ∀ (s : Shared) (H : Hp) (C : Addr) (cl : List (Str × Addr)) (fp : List Addr), PTs (X.blk s H scope (PySem.compEnvC scope cl C X.env) fp) ifs (tT X.K tt))
    (he : ∀ (s : Shared) (H : Hp) (C : Addr) (cl : List (Str × Addr)) (fp : List Addr), PE (X.blk s H scope (PySem.compEnvC scope cl C X.env) fp) elt (tE X.K te)) (hs : ∀ x, foldedSetIterable iter X.env x = pure x := by intro _; rfl) :
    PE X (.ListComp elt [⟨tg, iter, ifs, 0⟩] scope pos) (tE X.K (eLc it (own.map (·.2)) tgm tt te)) := PE_imp (pe_lc hc hN hi ok hg ht he hs) (lc_read hgt)
theorem r_lcO (hc : X.calm = true) (hN : X.N.Nodup) (hi : PI X tg iter (tI X.K it)) (ok : BlkOk X.N X.env.scope scope own) (hgt : TgOk X.K gt tgm (own.map (·.2)))
    (hg : ∀ (s : Shared) (H : Hp) (C : Addr) (cl : List (Str × Addr)) (fp : List Addr), PG (X.blk s H scope (PySem.compEnvC scope cl C X.env) fp) tg gt) (ht : ∀ (s : Shared) (H : Hp) (C : Addr) (cl : List (Str × Addr)) (fp : List Addr), PTs (X.blk s H scope (PySem.compEnvC scope cl C X.env) fp) ifs (tT X.K tt))
    (he : ∀ (s : Shared) (H : Hp) (C : Addr) (cl : List (Str × Addr)) (fp : List Addr), PE (X.blk s H scope (PySem.compEnvC scope cl C X.env) fp) elt (tE X.K te)) (hs : ∀ x, foldedSetIterable iter X.env x = pure x := by intro _; rfl) :
    PE X (.ListComp elt [⟨tg, iter, ifs, 0⟩] scope pos) (tE X.K (eLcO it (own.map (·.2)) tgm tt te)) := PE_imp (pe_lc hc hN hi ok hg ht he hs) (lcO_read hgt)
theorem r_setLc {i : Nat} (hc : X.calm = true) (hN : X.N.Nodup) (hy : X.N[i]? = some y) (hyl : X.env.scope.names.lookup y = some .local)
    (hsw : swapsWith (.ListComp elt [⟨tg, iter, ifs, 0⟩] scope pos) (some (.Name y py)) spos.line X.env = pure true) (hi : PI X tg iter (tI X.K it)) (ok : BlkOk X.N X.env.scope scope own) (hgt : TgOk X.K gt tgm (own.map (·.2)))
    (hg : ∀ (s : Shared) (H : Hp) (C : Addr) (cl : List (Str × Addr)) (fp : List Addr), PG (X.blk s H scope (PySem.compEnvC scope cl C X.env) fp) tg gt) (ht : ∀ (s : Shared) (H : Hp) (C : Addr) (cl : List (Str × Addr)) (fp : List Addr), PTs (X.blk s H scope (PySem.compEnvC scope cl C X.env) fp) ifs (tT X.K tt))
    (he : ∀ (s : Shared) (H : Hp) (C : Addr) (cl : List (Str × Addr)) (fp : List Addr), PE (X.blk s H scope (PySem.compEnvC scope cl C X.env) fp) elt (tE X.K te)) (hs : ∀ x, foldedSetIterable iter X.env x = pure x := by intro _; rfl) :
    PS X (.Assign [.Name y py] (.ListComp elt [⟨tg, iter, ifs, 0⟩] scope pos) spos) (tS X.K (sSet i (eLc it (own.map (·.2)) tgm tt te))) :=
  PS_imp (PS_imp (ps_setLc hc hN hy hyl hsw hi ok hg ht he hs) fun D σ H h => lc_read hgt σ H _ h) (asg_read (tgOk_name (vs := [i]) (List.mem_singleton.mpr rfl)))
theorem r_setLcO {i : Nat} (hc : X.calm = true) (hN : X.N.Nodup) (hy : X.N[i]? = some y) (hyl : X.env.scope.names.lookup y = some .local)
    (hsw : swapsWith (.ListComp elt [⟨tg, iter, ifs, 0⟩] scope pos) (some (.Name y py)) spos.line X.env = pure true) (hi : PI X tg iter (tI X.K it)) (ok : BlkOk X.N X.env.scope scope own) (hgt : TgOk X.K gt tgm (own.map (·.2)))
    (hg : ∀ (s : Shared) (H : Hp) (C : Addr) (cl : List (Str × Addr)) (fp : List Addr), PG (X.blk s H scope (PySem.compEnvC scope cl C X.env) fp) tg gt) (ht : ∀ (s : Shared) (H : Hp) (C : Addr) (cl : List (Str × Addr)) (fp : List Addr), PTs (X.blk s H scope (PySem.compEnvC scope cl C X.env) fp) ifs (tT X.K tt))
    (he : ∀ (s : Shared) (H : Hp) (C : Addr) (cl : List (Str × Addr)) (fp : List Addr), PE (X.blk s H scope (PySem.compEnvC scope cl C X.env) fp) elt (tE X.K te)) (hs : ∀ x, foldedSetIterable iter X.env x = pure x := by intro _; rfl) :
    PS X (.Assign [.Name y py] (.ListComp elt [⟨tg, iter, ifs, 0⟩] scope pos) spos) (tS X.K (sSet i (eLcO it (own.map (·.2)) tgm tt te))) :=
  PS_imp (PS_imp (ps_setLc hc hN hy hyl hsw hi ok hg ht he hs) fun D σ H h => lcO_read hgt σ H _ h) (asg_read (tgOk_name (vs := [i]) (List.mem_singleton.mpr rfl)))
theorem r_dc (hc : X.calm = true) (hN : X.N.Nodup) (hi : PI X tg iter (tI X.K it)) (ok : BlkOk X.N X.env.scope scope own) (hgt : TgOk X.K gt tgm (own.map (·.2)))
    (hg : ∀ (s : Shared) (H : Hp) (C : Addr) (cl : List (Str × Addr)) (fp : List Addr), PG (X.blk s H scope (PySem.compEnvC scope cl C X.env) fp) tg gt) (ht : ∀ (s : Shared) (H : Hp) (C : Addr) (cl : List (Str × Addr)) (fp : List Addr), PTs (X.blk s H scope (PySem.compEnvC scope cl C X.env) fp) ifs (tT X.K tt))
    (hk : ∀ (s : Shared) (H : Hp) (C : Addr) (cl : List (Str × Addr)) (fp : List Addr), PE (X.blk s H scope (PySem.compEnvC scope cl C X.env) fp) kx (tE X.K tk))
    (he : ∀ (s : Shared) (H : Hp) (C : Addr) (cl : List (Str × Addr)) (fp : List Addr), PE (X.blk s H scope (PySem.compEnvC scope cl C X.env) fp) vx (tE X.K tv)) (hs : ∀ x, foldedSetIterable iter X.env x = pure x := by intro _; rfl) :
    PE X (.DictComp kx vx [⟨tg, iter, ifs, 0⟩] scope pos) (tE X.K (eDc it (own.map (·.2)) tgm tt tk tv)) := PE_imp (pe_dc hc hN hi ok hg ht hk he hs) (dc_read hgt)
theorem r_dcO (hc : X.calm = true) (hN : X.N.Nodup) (hi : PI X tg iter (tI X.K it)) (ok : BlkOk X.N X.env.scope scope own) (hgt : TgOk X.K gt tgm (own.map (·.2)))
    (hg : ∀ (s : Shared) (H : Hp) (C : Addr) (cl : List (Str × Addr)) (fp : List Addr), PG (X.blk s H scope (PySem.compEnvC scope cl C X.env) fp) tg gt) (ht : ∀ (s : Shared) (H : Hp) (C : Addr) (cl : List (Str × Addr)) (fp : List Addr), PTs (X.blk s H scope (PySem.compEnvC scope cl C X.env) fp) ifs (tT X.K tt))
    (hk : ∀ (s : Shared) (H : Hp) (C : Addr) (cl : List (Str × Addr)) (fp : List Addr), PE (X.blk s H scope (PySem.compEnvC scope cl C X.env) fp) kx (tE X.K tk))
    (he : ∀ (s : Shared) (H : Hp) (C : Addr) (cl : List (Str × Addr)) (fp : List Addr), PE (X.blk s H scope (PySem.compEnvC scope cl C X.env) fp) vx (tE X.K tv)) (hs : ∀ x, foldedSetIterable iter X.env x = pure x := by intro _; rfl) :
    PE X (.DictComp kx vx [⟨tg, iter, ifs, 0⟩] scope pos) (tE X.K (eDcO it (own.map (·.2)) tgm tt tk tv)) := PE_imp (pe_dc hc hN hi ok hg ht hk he hs) (dcO_read hgt)
end
end
/-! #### the single operators -/
section
variable {X : Cx} {a b c : Expr} {fa fb fc : Ex} {pos : Pos}
theorem q_add (ha : PE X a (tE X.K fa)) (hb : PE X b (tE X.K fb)) : PE X (.BinOp a .Add b pos) (tE X.K (eBin (g2 opAdd) fa fb)) := r_op op_addA d_add.r2 ha hb
theorem q_sub (ha : PE X a (tE X.K fa)) (hb : PE X b (tE X.K fb)) : PE X (.BinOp a .Sub b pos) (tE X.K (eBin (g2 opSub) fa fb)) := r_op op_sub d_sub.r2 ha hb
theorem q_mul (ha : PE X a (tE X.K fa)) (hb : PE X b (tE X.K fb)) : PE X (.BinOp a .Mult b pos) (tE X.K (eBin (g2 opMulA) fa fb)) := r_op op_mulA d_mulA.r2 ha hb
theorem q_div (ha : PE X a (tE X.K fa)) (hb : PE X b (tE X.K fb)) : PE X (.BinOp a .FloorDiv b pos) (tE X.K (eBin (g2 opDiv) fa fb)) := r_op op_fdiv d_div.r2 ha hb
theorem q_mod (ha : PE X a (tE X.K fa)) (hb : PE X b (tE X.K fb)) : PE X (.BinOp a .Mod b pos) (tE X.K (eBin (g2 opMod) fa fb)) := r_op op_mod d_mod.r2 ha hb
theorem q_pow (ha : PE X a (tE X.K fa)) (hb : PE X b (tE X.K fb)) : PE X (.BinOp a .Pow b pos) (tE X.K (eBin (g2 opPow) fa fb)) := r_op op_pow d_pow.r2 ha hb
theorem q_ix (ha : PE X a (tE X.K fa)) (hb : PE X b (tE X.K fb)) (hs : PlainIx b := by intro _ _; rfl) : PE X (.Subscript a b pos) (tE X.K (eBin gIx fa fb)) := r_ix ix_seq d_ixA ha hb hs
end
/-- the comparisons: an operator with its reading -/
structure CmpR (X : Cx) (op : CmpOp) (g : G2) : Prop where
  ex : ∃ r, OpR X (compareOp op) r ∧ R2Ok X.K r g
section
variable {X : Cx} {a b c : Expr} {fa fb fc : Ex} {pos : Pos} {op op' : CmpOp} {g g' : G2}
theorem c_lt : CmpR X .Lt (g2 opLt) := ⟨_, op_lt, d_lt.r2⟩
theorem c_le : CmpR X .LtE (g2 opLe) := ⟨_, op_le, d_le.r2⟩
theorem c_gt : CmpR X .Gt (g2 opGt) := ⟨_, op_gt, d_gt.r2⟩
theorem c_ge : CmpR X .GtE (g2 opGe) := ⟨_, op_ge, d_ge.r2⟩
theorem c_eq (hu : X.A.units + 64 < cLine) : CmpR X .Eq (g2 opEqA) := ⟨_, op_eqA hu, d_eqA.r2⟩
theorem c_ne (hu : X.A.units + 64 < cLine) : CmpR X .NotEq (g2 opNeA) := ⟨_, op_neA hu, d_neA.r2⟩
theorem c_in (hu : X.A.units + 65 < cLine) : CmpR X .In (g2 opIn) := ⟨_, op_inT hu, d_in.r2⟩
theorem c_nin (hu : X.A.units + 65 < cLine) : CmpR X .NotIn (g2 opNotIn) := ⟨_, op_notInT hu, d_notIn.r2⟩
theorem c_is : CmpR X .Is (g2 opIsN) := ⟨_, op_isN, d_isN.r2⟩
theorem c_isnt : CmpR X .IsNot (g2 opNotN) := ⟨_, op_notN, d_notN.r2⟩
theorem q_cmp (h : CmpR X op g) (ha : PE X a (tE X.K fa)) (hb : PE X b (tE X.K fb)) (hm : behindInMarks op b = false := by rfl) : PE X (.Compare a [op] [b] pos) (tE X.K (eBin g fa fb)) := by
  obtain ⟨r, h1, h2⟩ := h.ex
  exact r_cmp h1 h2 ha hb hm
theorem q_cmpT (h : CmpR X op g) (ha : PE X a (tE X.K fa)) (hb : PE X b (tE X.K fb)) (hm : behindInMarks op b = false := by rfl) : PT X (.Compare a [op] [b] pos) (tT X.K (tOf (eBin g fa fb))) := by
  obtain ⟨r, h1, h2⟩ := h.ex
  exact r_cmpT h1 h2 ha hb hm
theorem q_chain (h : CmpR X op g) (h' : CmpR X op' g') (ha : PE X a (tE X.K fa)) (hb : PE X b (tE X.K fb)) (hc : PE X c (tE X.K fc)) (hm : lastMarks [op, op'] [b, c] = false := by with_unfolding_all rfl) : PE X (.Compare a [op, op'] [b, c] pos) (tE X.K (eChain g g' fa fb fc)) := by
  obtain ⟨r, h1, h2⟩ := h.ex
  obtain ⟨r', h3, h4⟩ := h'.ex
  exact r_chain h1 h2 h3 h4 ha hb hc hm
theorem q_chainT (h : CmpR X op g) (h' : CmpR X op' g') (ha : PE X a (tE X.K fa)) (hb : PE X b (tE X.K fb)) (hc : PE X c (tE X.K fc)) (hm : lastMarks [op, op'] [b, c] = false := by with_unfolding_all rfl) : PT X (.Compare a [op, op'] [b, c] pos) (tT X.K (tOf (eChain g g' fa fb fc))) := by
  obtain ⟨r, h1, h2⟩ := h.ex
  obtain ⟨r', h3, h4⟩ := h'.ex
  exact r_chainT h1 h2 h3 h4 ha hb hc hm
theorem u64 {A : Around} {k : Nat} (hr : Room k A) : A.units + 64 < cLine := hr.units
theorem u65 {A : Around} {k : Nat} (hr : Room k A) : A.units + 65 < cLine := by have := hr.un; omega
end
/-! #### the built-ins by name -/
section
variable {X : Cx} {a b : Expr} {fa fb : Ex} {p pos : Pos}
theorem q_len (hm : X.mg "len" = none) (ha : PE X a (tE X.K fa)) (hg : Gl X "len" := by rfl) (hs : starEach [a] X.env = (false, eval a X.env) :: starEach [] X.env := by rfl) (hpl : (backTo pos (starEach [] X.env)).any (·.1) = false := by rfl) : PE X (.Call (.Name "len" p) [a] [] pos) (tE X.K (eUn opLen fa)) :=
  r_b1 call_lenA d_len1 hg hm PySem.boot_len ha (by decide) (by decide) hs hpl
theorem q_max (hc : X.calm = true) (hm : X.mg "max" = none) (ha : PE X a (tE X.K fa)) (hg : Gl X "max" := by rfl) (hs : starEach [a] X.env = (false, eval a X.env) :: starEach [] X.env := by rfl) (hpl : (backTo pos (starEach [] X.env)).any (·.1) = false := by rfl) : PE X (.Call (.Name "max" p) [a] [] pos) (tE X.K (eUn opMax fa)) :=
  r_b1 (cr_max hc) d_max1 hg hm (by decide +kernel) ha (by decide) (by decide) hs hpl
theorem q_min (hc : X.calm = true) (hm : X.mg "min" = none) (ha : PE X a (tE X.K fa)) (hg : Gl X "min" := by rfl) (hs : starEach [a] X.env = (false, eval a X.env) :: starEach [] X.env := by rfl) (hpl : (backTo pos (starEach [] X.env)).any (·.1) = false := by rfl) : PE X (.Call (.Name "min" p) [a] [] pos) (tE X.K (eUn opMin fa)) :=
  r_b1 (cr_min hc) d_min1 hg hm (by decide +kernel) ha (by decide) (by decide) hs hpl
theorem q_sum (hc : X.calm = true) (hm : X.mg "sum" = none) (ha : PE X a (tE X.K fa)) (hg : Gl X "sum" := by rfl) (hs : starEach [a] X.env = (false, eval a X.env) :: starEach [] X.env := by rfl) (hpl : (backTo pos (starEach [] X.env)).any (·.1) = false := by rfl) : PE X (.Call (.Name "sum" p) [a] [] pos) (tE X.K (eUn opSum fa)) :=
  r_b1 (cr_sum hc) d_sum1 hg hm (by decide +kernel) ha (by decide) (by decide) hs hpl
theorem q_abs (hm : X.mg "abs" = none) (ha : PE X a (tE X.K fa)) (hg : Gl X "abs" := by rfl) (hs : starEach [a] X.env = (false, eval a X.env) :: starEach [] X.env := by rfl) (hpl : (backTo pos (starEach [] X.env)).any (·.1) = false := by rfl) : PE X (.Call (.Name "abs" p) [a] [] pos) (tE X.K (eUn opAbs fa)) :=
  r_b1 call_abs d_abs1 hg hm (by decide +kernel) ha (by decide) (by decide) hs hpl
theorem q_int (hm : X.mg "int" = none) (ha : PE X a (tE X.K fa)) (hg : Gl X "int" := by rfl) (hs : starEach [a] X.env = (false, eval a X.env) :: starEach [] X.env := by rfl) (hpl : (backTo pos (starEach [] X.env)).any (·.1) = false := by rfl) : PE X (.Call (.Name "int" p) [a] [] pos) (tE X.K (eUn opInt fa)) :=
  r_t1 call_int1 d_int1 hg hm (by decide +kernel) ha (by decide) (by decide) hs hpl
theorem q_tuple (hm : X.mg "tuple" = none) (ha : PE X a (tE X.K fa)) (hg : Gl X "tuple" := by rfl) (hs : starEach [a] X.env = (false, eval a X.env) :: starEach [] X.env := by rfl) (hpl : (backTo pos (starEach [] X.env)).any (·.1) = false := by rfl) : PE X (.Call (.Name "tuple" p) [a] [] pos) (tE X.K (eUn opTuple fa)) :=
  r_t1 call_tuple_of d_tuple1 hg hm (by decide +kernel) ha (by decide) (by decide) hs hpl
theorem q_list (hm : X.mg "list" = none) (ha : PE X a (tE X.K fa)) (hg : Gl X "list" := by rfl) (hs : starEach [a] X.env = (false, eval a X.env) :: starEach [] X.env := by rfl) (hpl : (backTo pos (starEach [] X.env)).any (·.1) = false := by rfl) : PE X (.Call (.Name "list" p) [a] [] pos) (tE X.K (eUn opList fa)) :=
  r_t1 call_list_of d_list1 hg hm (by decide +kernel) ha (by decide) (by decide) hs hpl
theorem q_listO (hm : X.mg "list" = none) (ha : PE X a (tE X.K fa)) (hg : Gl X "list" := by rfl) (hs : starEach [a] X.env = (false, eval a X.env) :: starEach [] X.env := by rfl) (hpl : (backTo pos (starEach [] X.env)).any (·.1) = false := by rfl) : PE X (.Call (.Name "list" p) [a] [] pos) (tE X.K (eListO fa)) :=
  r_listO hg hm (by decide +kernel) ha (by decide) (by decide) hs hpl
theorem q_max2 (hc : X.calm = true) (hm : X.mg "max" = none) (ha : PE X a (tE X.K fa)) (hb : PE X b (tE X.K fb)) (hg : Gl X "max" := by rfl) (hs : starEach [a, b] X.env = (false, eval a X.env) :: starEach [b] X.env := by rfl) (hs2 : starEach [b] X.env = (false, eval b X.env) :: starEach [] X.env := by rfl) (hpl : (backTo pos (starEach [b] X.env)).any (·.1) = false := by rfl) :
    PE X (.Call (.Name "max" p) [a, b] [] pos) (tE X.K (eBi opMax2 fa fb)) := r_b2 (call_max2 hc) d_max2 hg hm (by decide +kernel) ha hb (by decide) (by decide) hs hs2 hpl
theorem q_min2 (hc : X.calm = true) (hm : X.mg "min" = none) (ha : PE X a (tE X.K fa)) (hb : PE X b (tE X.K fb)) (hg : Gl X "min" := by rfl) (hs : starEach [a, b] X.env = (false, eval a X.env) :: starEach [b] X.env := by rfl) (hs2 : starEach [b] X.env = (false, eval b X.env) :: starEach [] X.env := by rfl) (hpl : (backTo pos (starEach [b] X.env)).any (·.1) = false := by rfl) :
    PE X (.Call (.Name "min" p) [a, b] [] pos) (tE X.K (eBi opMin2 fa fb)) := r_b2 (call_min2 hc) d_min2 hg hm (by decide +kernel) ha hb (by decide) (by decide) hs hs2 hpl
theorem q_isi {T : String} {y : Str} {p2 : Pos} (hT : T ∈ askable) (hm : X.mg "isinstance" = none) (hmT : X.mg y = none) (hvT : bootBuiltins y = some (.type T)) (ha : PE X a (tE X.K fa)) (hg : Gl X "isinstance" := by rfl) (hgT : Gl X y := by rfl) (hnT : y ≠ "__name__" := by decide) (hdbT : (y == ("__debug__" : Str)) = false := by decide)
    (hs : starEach [a, .Name y p2] X.env = (false, eval a X.env) :: starEach [.Name y p2] X.env := by rfl) (hs2 : starEach [.Name y p2] X.env = (false, eval (.Name y p2) X.env) :: starEach [] X.env := by rfl) (hpl : (backTo pos (starEach [.Name y p2] X.env)).any (·.1) = false := by rfl) :
    PE X (.Call (.Name "isinstance" p) [a, .Name y p2] [] pos) (tE X.K (eIsi T fa)) := r_isi hT hg hm (by decide +kernel) hgT hmT hvT ha (by decide) (by decide) hnT hdbT hs hs2 hpl
end
theorem at_of {x : Str} {ps : List Str} {st : Stmt} {K : PySem.W.Frag} {h : Heap} {mg : Str → Option Value} {f : Addr} {oc : Value} {od an : Option Addr} {osl : Array (Option Value)} {kV doc pm cdv ct : Value} (X : K.In h) (G : h.Ns mainGlobals mg)
    (a : PySem.W.nsIn K mainGlobals x = some (some (.ref f))) (l : K.lookup f = some ⟨oc, od, .func (PySem.W.fnOf x x (defArgs st) (defBody st) (defScope st) .none kV doc pm an cdv ct), osl⟩) (c : PySem.W.codeIn K cdv x = true) (k : PySem.W.keepIn K (.ref f) = true)
    (hb : ∀ (kV doc pm : Value) (an : Option Addr) (cdv ct : Value) (us : List Value), us.length = ps.length → bindArgs (PySem.W.fnOf x x (defArgs st) (defBody st) (defScope st) .none kV doc pm an cdv ct) ⟨us, []⟩ = pure (ps.zip us)) :
    At K mg x ps st f (PySem.W.fnOf x x (defArgs st) (defBody st) (defScope st) .none kV doc pm an cdv ct) :=
  ⟨fun_mk l c k, PySem.W.mg_of X G a, (fun_mk (x := x) (qual := x) (st := st) l c k).binds hb⟩
end PL
namespace Lw
open PySem PySem.Spec L2 PL
set_option autoImplicit false
noncomputable def b_meetings_of : Sx :=
  (sRet (eLc (iRange1 (eUn opLen (eBin gIx (eV 0) (eC (.int 1))))) [2] (tgName 2) (tOf (eBin (g2 opIn) (eV 1) (eBin gIx (eBin gIx (eV 0) (eC (.int 1))) (eV 2)))) (eV 2)))
noncomputable def m_meetings_of : Fx := fnD 2 1 b_meetings_of
noncomputable def b_load : Sx :=
  (sRet (eUn opLen (eCall m_meetings_of (aCons (eV 0) (aCons (eV 1) aNil)))))
noncomputable def m_load : Fx := fnD 2 0 b_load
noncomputable def b_greatest_load : Sx :=
  (sRet (eUn opMax (eBin (g2 opAdd) (eLst (aCons (eC (.int 0)) aNil)) (eLc (iRange1 (eBin gIx (eV 0) (eC (.int 0)))) [1] (tgName 1) tTrue (eCall m_load (aCons (eV 0) (aCons (eV 1) aNil)))))))
noncomputable def m_greatest_load : Fx := fnD 1 1 b_greatest_load
noncomputable def b_clash : Sx :=
  (sSeq (sAsg (eBin gIx (eBin gIx (eV 0) (eC (.int 1))) (eV 1)) (tgTup [3, 4]))
    (sRet (eOr (eBin (g2 opIn) (eV 3) (eBin gIx (eBin gIx (eV 0) (eC (.int 1))) (eV 2))) (eBin (g2 opIn) (eV 4) (eBin gIx (eBin gIx (eV 0) (eC (.int 1))) (eV 2))))))
noncomputable def m_clash : Fx := fnD 3 2 b_clash
noncomputable def b_other_of : Sx :=
  (sSeq (sAsg (eBin gIx (eBin gIx (eV 0) (eC (.int 1))) (eV 1)) (tgTup [3, 4]))
    (sRet (eIf (tOf (eBin (g2 opEqA) (eV 2) (eV 3))) (eV 4) (eV 3))))
noncomputable def m_other_of : Fx := fnD 3 2 b_other_of
noncomputable def b_is_right : Sx :=
  (sSeq (sIf (tOrM (tOf (eBin (g2 opNeA) (eUn opLen (eV 1)) (eUn opLen (eBin gIx (eV 0) (eC (.int 1)))))) (tOf (eBin (g2 opGt) (eUn opLen (eLc (iSeq (eV 1)) [5] (tgName 5) (tNotM (tOf (eChain (g2 opLe) (g2 opLt) (eC (.int 0)) (eV 5) (eV 2)))) (eC (.int 1)))) (eC (.int 0))))) (sRet (eC (.bl false))) sNil)
    (sSeq (sFor (iRange1 (eUn opLen (eV 1))) (tgName 3) (sFor (iRange1 (eV 3)) (tgName 4) (sIf (tAndM (tOf (eBin (g2 opEqA) (eBin gIx (eV 1) (eV 3)) (eBin gIx (eV 1) (eV 4)))) (tOf (eCall m_clash (aCons (eV 0) (aCons (eV 3) (aCons (eV 4) aNil)))))) (sRet (eC (.bl false))) sNil)))
    (sRet (eC (.bl true)))))
noncomputable def m_is_right : Fx := fnD 3 3 b_is_right
noncomputable def b_day_counts : Sx :=
  (sRet (eLc (iRange1 (eV 1)) [2] (tgName 2) tTrue (eUn opLen (eLc (iSeq (eV 0)) [3] (tgName 3) (tOf (eBin (g2 opEqA) (eV 3) (eV 2))) (eC (.int 1))))))
noncomputable def m_day_counts : Fx := fnD 2 2 b_day_counts
noncomputable def b_shows_class : Sx :=
  (sSeq (sAsg (eV 1) (tgTup [2, 3]))
    (sSeq (sIf (tOf (eBin (g2 opEqA) (eV 2) (eC (.int 1)))) (sRet (eCall m_is_right (aCons (eV 0) (aCons (eV 3) (aCons (eCall m_greatest_load (aCons (eV 0) aNil)) aNil))))) sNil)
    (sRet (eAnd (eBin (g2 opEqA) (eV 2) (eC (.int 2))) (eCall fNone (aCons (eV 0) (aCons (eCall m_greatest_load (aCons (eV 0) aNil)) (aCons (eV 3) aNil))))))))
noncomputable def m_shows_class : Fx := fnD 2 2 b_shows_class
noncomputable def b_is_homes : Sx :=
  (sRet (eAnd (eBin (g2 opEqA) (eUn opLen (eV 1)) (eUn opLen (eBin gIx (eV 0) (eC (.int 1))))) (eBin (g2 opEqA) (eUn opLen (eLc (iRange1 (eUn opLen (eV 1))) [2] (tgName 2) (tOf (eBin (g2 opNotIn) (eBin gIx (eV 1) (eV 2)) (eBin gIx (eBin gIx (eV 0) (eC (.int 1))) (eV 2)))) (eC (.int 1)))) (eC (.int 0)))))
noncomputable def m_is_homes : Fx := fnD 2 1 b_is_homes
noncomputable def b_is_fair : Sx :=
  (sSeq (sFor (iRange1 (eBin gIx (eV 0) (eC (.int 0)))) (tgName 2) (sSeq (sSet 3 (eCall m_meetings_of (aCons (eV 0) (aCons (eV 2) aNil))))
    (sSeq (sSet 4 (eUn opLen (eLc (iSeq (eV 3)) [5] (tgName 5) (tOf (eBin (g2 opEqA) (eBin gIx (eV 1) (eV 5)) (eV 2))) (eV 5))))
    (sIf (tOf (eBin (g2 opGt) (eUn opAbs (eBin (g2 opSub) (eBin (g2 opMulA) (eC (.int 2)) (eV 4)) (eUn opLen (eV 3)))) (eC (.int 1)))) (sRet (eC (.bl false))) sNil))))
    (sRet (eC (.bl true))))
noncomputable def m_is_fair : Fx := fnD 2 4 b_is_fair
noncomputable def b_start_of : Sx :=
  (sSeq (sSet 2 (eLc (iRange1 (eBin gIx (eV 0) (eC (.int 0)))) [4] (tgName 4) tTrue (eUn opLen (eLc (iSeq (eCall m_meetings_of (aCons (eV 0) (aCons (eV 4) aNil)))) [5] (tgName 5) (tOf (eInD (eV 5) (eV 1))) (eV 5)))))
    (sSeq (sSet 3 (eLc (iRange1 (eBin gIx (eV 0) (eC (.int 0)))) [4] (tgName 4) (tOf (eBin (g2 opEqA) (eBin (g2 opMod) (eBin gIx (eV 2) (eV 4)) (eC (.int 2))) (eC (.int 1)))) (eV 4)))
    (sSeq (sIf (tOf (eBin (g2 opGt) (eUn opLen (eV 3)) (eC (.int 0)))) (sRet (eBin gIx (eV 3) (eC (.int 0)))) sNil)
    (sRet (eBin gIx (eLc (iRange1 (eBin gIx (eV 0) (eC (.int 0)))) [4] (tgName 4) (tOf (eBin (g2 opGt) (eBin gIx (eV 2) (eV 4)) (eC (.int 0)))) (eV 4)) (eC (.int 0)))))))
noncomputable def m_start_of : Fx := fnD 2 4 b_start_of
noncomputable def b_fair_homes : Sx :=
  (sSeq (sSet 1 eDicO)
    (sSeq (sSet 2 (eDcO (iRange1 (eUn opLen (eBin gIx (eV 0) (eC (.int 1))))) [5] (tgName 5) tTrue (eV 5) (eC (.bl true))))
    (sSeq (sWhile wN (tOf (eBin (g2 opGt) (eUn opLen (eV 2)) (eC (.int 0)))) (sSeq (sSet 3 (eCall m_start_of (aCons (eV 0) (aCons (eV 2) aNil))))
    (sWhile wN (tOf (eC (.bl true))) (sSeq (sSet 4 (eLc (iSeq (eCall m_meetings_of (aCons (eV 0) (aCons (eV 3) aNil)))) [5] (tgName 5) (tOf (eInD (eV 5) (eV 2))) (eV 5)))
    (sSeq (sIf (tOf (eBin (g2 opEqA) (eUn opLen (eV 4)) (eC (.int 0)))) sBrk sNil)
    (sSeq (sPutD (eV 1) (eBin gIx (eV 4) (eC (.int 0))) (eV 3))
    (sSeq (sDelD (eV 2) (eBin gIx (eV 4) (eC (.int 0))))
    (sSet 3 (eCall m_other_of (aCons (eV 0) (aCons (eBin gIx (eV 4) (eC (.int 0))) (aCons (eV 3) aNil))))))))))))
    (sRet (eUn opTuple (eLc (iRange1 (eUn opLen (eBin gIx (eV 0) (eC (.int 1))))) [5] (tgName 5) tTrue (eGetD (eV 1) (eV 5))))))))
noncomputable def m_fair_homes : Fx := fnD 1 5 b_fair_homes
noncomputable def b_is_even : Sx :=
  (sSeq (sSet 2 (eCall m_day_counts (aCons (eV 0) (aCons (eV 1) aNil))))
    (sRet (eBin (g2 opLt) (eBin (g2 opSub) (eUn opMax (eV 2)) (eUn opMin (eV 2))) (eC (.int 2)))))
noncomputable def m_is_even : Fx := fnD 2 1 b_is_even
noncomputable def b_shows_rooms : Sx :=
  (sRet (eAnd (eCall m_is_right (aCons (eV 0) (aCons (eV 3) (aCons (eV 1) aNil)))) (eBin (g2 opEqA) (eUn opLen (eLc (iSeq (eCall m_day_counts (aCons (eV 3) (aCons (eV 1) aNil)))) [4] (tgName 4) (tOf (eBin (g2 opGt) (eV 4) (eV 2))) (eC (.int 1)))) (eC (.int 0)))))
noncomputable def m_shows_rooms : Fx := fnD 4 1 b_shows_rooms
noncomputable def b_is_in_stretches : Sx :=
  (sSeq (sFor (iRange1 (eBin gIx (eV 0) (eC (.int 0)))) (tgName 2) (sSeq (sSet 3 (eLc (iSeq (eCall m_meetings_of (aCons (eV 0) (aCons (eV 2) aNil)))) [4] (tgName 4) tTrue (eBin gIx (eV 1) (eV 4))))
    (sIf (tAndM (tOf (eBin (g2 opGt) (eUn opLen (eV 3)) (eC (.int 0)))) (tOf (eBin (g2 opNeA) (eBin (g2 opAdd) (eBin (g2 opSub) (eUn opMax (eV 3)) (eUn opMin (eV 3))) (eC (.int 1))) (eUn opLenSet (eV 3))))) (sRet (eC (.bl false))) sNil)))
    (sRet (eC (.bl true))))
noncomputable def m_is_in_stretches : Fx := fnD 2 3 b_is_in_stretches
noncomputable def b_are_level : Sx :=
  (sSeq (sIf (tOrM (tOf (eBin (g2 opNeA) (eUn opLen (eV 1)) (eUn opLen (eBin gIx (eV 0) (eC (.int 1)))))) (tOf (eBin (g2 opGt) (eUn opLen (eLc (iSeq (eV 1)) [7] (tgName 7) (tNotM (tOf (eChain (g2 opLe) (g2 opLt) (eC (.int 0)) (eV 7) (eV 2)))) (eC (.int 1)))) (eC (.int 0))))) (sRet (eC (.bl false))) sNil)
    (sSeq (sFor (iRange1 (eBin gIx (eV 0) (eC (.int 0)))) (tgName 3) (sSeq (sSet 4 (eLc (iSeq (eCall m_meetings_of (aCons (eV 0) (aCons (eV 3) aNil)))) [6] (tgName 6) tTrue (eBin gIx (eV 1) (eV 6))))
    (sSeq (sSet 5 (eLc (iRange1 (eV 2)) [7] (tgName 7) tTrue (eM2 opCount (eV 4) (eV 7))))
    (sIf (tOf (eBin (g2 opGt) (eBin (g2 opSub) (eUn opMax (eV 5)) (eUn opMin (eV 5))) (eC (.int 1)))) (sRet (eC (.bl false))) sNil))))
    (sRet (eC (.bl true)))))
noncomputable def m_are_level : Fx := fnD 3 5 b_are_level
noncomputable def b__law_deal : Sx :=
  (sSeq (sSet 1 (eLstO aNil))
    (sSeq (sFor (iRange1 (eBi opMin2 (eUn opLen (eV 0)) (eC (.int 63)))) (tgName 2) (sSeq (sSet 3 (eUn opAbs (eUn opInt (eBin gIx (eV 0) (eV 2)))))
    (sIf (tOf (eBin (g2 opGe) (eV 3) (eBin (g2 opPow) (eC (.int 10)) (eC (.int 18))))) (sFor (iRange1 (eC (.int 40))) (tgName 4) (sIf (tOf (eBin (g2 opGt) (eV 3) (eC (.int 0)))) (sSeq (sExp (eApp (eV 1) (eBin (g2 opMod) (eV 3) (eC (.int 1009)))))
    (sSet 3 (eBin (g2 opDiv) (eV 3) (eC (.int 1009))))) sNil)) (sSeq (sSet 3 (eBin (g2 opAdd) (eBin (g2 opAdd) (eBin (g2 opMulA) (eBin (g2 opMod) (eV 3) (eC (.int 2147483629))) (eC (.int 48271))) (eBin (g2 opMulA) (eV 2) (eC (.int 69621)))) (eC (.int 11))))
    (sFor (iRange1 (eC (.int 5))) (tgName 4) (sSeq (sSet 3 (eBin (g2 opMod) (eBin (g2 opAdd) (eBin (g2 opAdd) (eBin (g2 opMulA) (eV 3) (eC (.int 16807))) (eC (.int 12345))) (eV 4)) (eC (.int 2147483647))))
    (sExp (eApp (eV 1) (eBin (g2 opMod) (eBin (g2 opDiv) (eV 3) (eC (.int 7))) (eC (.int 1009)))))))))))
    (sSeq (sSet 5 (eBin (g2 opAdd) (eUn opSum (eV 1)) (eUn opLen (eV 0))))
    (sRet (eDeal (eV 1) (eLstO (aCons (eC (.int 0)) aNil)) (eV 5))))))
noncomputable def m__law_deal : Fx := fnD 1 5 b__law_deal
noncomputable def b__law_take : Sx :=
  (sSeq (sSet 2 (eBin gIx (eBin gIx (eV 0) (eC (.int 1))) (eC (.int 0))))
    (sSeq (sPutL (eBin gIx (eV 0) (eC (.int 1))) (eC (.int 0)) (eBin (g2 opAdd) (eV 2) (eC (.int 1))))
    (sSeq (sIf (tOf (eBin (g2 opLt) (eV 2) (eUn opLen (eBin gIx (eV 0) (eC (.int 0)))))) (sRet (eBin (g2 opMod) (eBin gIx (eBin gIx (eV 0) (eC (.int 0))) (eV 2)) (eV 1))) sNil)
    (sRet (eBin (g2 opMod) (eBin (g2 opDiv) (eBin (g2 opAdd) (eBin (g2 opAdd) (eBin (g2 opMulA) (eV 2) (eC (.int 7919))) (eBin (g2 opMulA) (eBin gIx (eV 0) (eC (.int 2))) (eC (.int 31)))) (eBin (g2 opMulA) (eBin (g2 opMulA) (eV 2) (eV 2)) (eC (.int 17)))) (eC (.int 3))) (eV 1))))))
noncomputable def m__law_take : Fx := fnD 2 1 b__law_take
noncomputable def b__law_same (rec : Fx) : Sx :=
  (sSeq (sIf (tOrM (tOf (eIsi "tuple" (eV 1))) (tOf (eIsi "list" (eV 1)))) (sSeq (sIf (tOrM (tAndM (tOf (eIsi "tuple" (eV 1))) (tNotM (tOf (eIsi "tuple" (eV 0))))) (tAndM (tOf (eIsi "list" (eV 1))) (tNotM (tOf (eIsi "list" (eV 0)))))) (sRet (eC (.bl false))) sNil)
    (sSeq (sIf (tOf (eBin (g2 opNeA) (eUn opLen (eV 0)) (eUn opLen (eV 1)))) (sRet (eC (.bl false))) sNil)
    (sSeq (sFor (iRange1 (eUn opLen (eV 1))) (tgName 2) (sIf (tNotM (tOf (eCall rec (aCons (eBin gIx (eV 0) (eV 2)) (aCons (eBin gIx (eV 1) (eV 2)) aNil))))) (sRet (eC (.bl false))) sNil))
    (sRet (eC (.bl true)))))) sNil)
    (sSeq (sIf (tOrM (tOf (eIsi "bool" (eV 0))) (tOf (eIsi "bool" (eV 1)))) (sRet (eAnd (eIsi "bool" (eV 0)) (eAnd (eIsi "bool" (eV 1)) (eBin (g2 opEqA) (eV 0) (eV 1))))) sNil)
    (sSeq (sIf (tOf (eIsi "int" (eV 1))) (sRet (eAnd (eIsi "int" (eV 0)) (eBin (g2 opEqA) (eV 0) (eV 1)))) sNil)
    (sSeq (sIf (tOf (eIsi "str" (eV 1))) (sRet (eAnd (eIsi "str" (eV 0)) (eBin (g2 opEqA) (eV 0) (eV 1)))) sNil)
    (sRet (eAnd (eBin (g2 opIsN) (eV 0) (eC .non)) (eBin (g2 opIsN) (eV 1) (eC .non))))))))
noncomputable def m__law_same : Nat → Fx
  | 0 => fNone
  | n + 1 => fnD 2 1 (b__law_same (m__law_same n))
noncomputable def b__law_bool : Sx :=
  (sRet (eAnd (eIsi "bool" (eV 0)) (eBin (g2 opEqA) (eV 0) (eV 1))))
noncomputable def m__law_bool : Fx := fnD 2 0 b__law_bool
noncomputable def b__law_pick : Sx :=
  (sRet (eBin gIx (eV 1) (eCall m__law_take (aCons (eV 0) (aCons (eUn opLen (eV 1)) aNil)))))
noncomputable def m__law_pick : Fx := fnD 2 0 b__law_pick
noncomputable def b__law_plain : Sx :=
  (sSeq (sSet 3 (eCall m__law_take (aCons (eV 0) (aCons (eBin (g2 opAdd) (eV 1) (eC (.int 1))) aNil))))
    (sSeq (sSet 4 (eBin (g2 opAdd) (eC (.int 1)) (eCall m__law_take (aCons (eV 0) (aCons (eC (.int 4)) aNil)))))
    (sSeq (sSet 5 (eLstO aNil))
    (sSeq (sFor (iRange1 (eV 3)) (tgName 6) (sFor (iRange2 (eBin (g2 opAdd) (eV 6) (eC (.int 1))) (eV 3)) (tgName 7) (sIf (tAndM (tOf (eBin (g2 opLt) (eCall m__law_take (aCons (eV 0) (aCons (eC (.int 5)) aNil))) (eV 4))) (tOf (eBin (g2 opLt) (eUn opLen (eV 5)) (eV 2)))) (sExp (eApp (eV 5) (eTup (aCons (eV 6) (aCons (eV 7) aNil))))) sNil)))
    (sSeq (sFor (iRange1 (eCall m__law_take (aCons (eV 0) (aCons (eC (.int 4)) aNil)))) (tgName 8) (sIf (tOf (eBin (g2 opGt) (eUn opLen (eV 5)) (eC (.int 1)))) (sSeq (sSet 9 (eCall m__law_take (aCons (eV 0) (aCons (eUn opLen (eV 5)) aNil))))
    (sSet 5 (eBin (g2 opAdd) (eSl (eV 5) (oSome (eV 9)) oNone) (eSl (eV 5) oNone (oSome (eV 9)))))) sNil))
    (sRet (eTup (aCons (eV 3) (aCons (eUn opTuple (eV 5)) aNil)))))))))
noncomputable def m__law_plain : Fx := fnD 3 7 b__law_plain
noncomputable def b__law_sided : Sx :=
  (sSeq (sSet 3 (eBin (g2 opAdd) (eC (.int 1)) (eCall m__law_take (aCons (eV 0) (aCons (eV 1) aNil)))))
    (sSeq (sSet 4 (eBin (g2 opAdd) (eC (.int 1)) (eCall m__law_take (aCons (eV 0) (aCons (eV 1) aNil)))))
    (sSeq (sSet 5 (eLstO aNil))
    (sSeq (sFor (iRange1 (eCall m__law_take (aCons (eV 0) (aCons (eBin (g2 opAdd) (eV 2) (eC (.int 1))) aNil)))) (tgName 6) (sExp (eApp (eV 5) (eTup (aCons (eCall m__law_take (aCons (eV 0) (aCons (eV 3) aNil))) (aCons (eBin (g2 opAdd) (eV 3) (eCall m__law_take (aCons (eV 0) (aCons (eV 4) aNil)))) aNil))))))
    (sRet (eTup (aCons (eBin (g2 opAdd) (eV 3) (eV 4)) (aCons (eUn opTuple (eV 5)) aNil))))))))
noncomputable def m__law_sided : Fx := fnD 3 4 b__law_sided
noncomputable def b__law_any : Sx :=
  (sSeq (sSet 2 (eCall m__law_take (aCons (eV 0) (aCons (eC (.int 3)) aNil))))
    (sSeq (sIf (tOf (eBin (g2 opEqA) (eV 2) (eC (.int 0)))) (sRet (eCall m__law_plain (aCons (eV 0) (aCons (eC (.int 6)) (aCons (eV 1) aNil))))) sNil)
    (sSeq (sIf (tOf (eBin (g2 opEqA) (eV 2) (eC (.int 1)))) (sRet (eCall m__law_sided (aCons (eV 0) (aCons (eC (.int 4)) (aCons (eV 1) aNil))))) sNil)
    (sSeq (sSet 3 (eBin (g2 opAdd) (eC (.int 2)) (eCall m__law_take (aCons (eV 0) (aCons (eC (.int 4)) aNil)))))
    (sSeq (sSet 4 (eLstO aNil))
    (sSeq (sFor (iRange1 (eCall m__law_take (aCons (eV 0) (aCons (eBin (g2 opAdd) (eV 1) (eC (.int 1))) aNil)))) (tgName 5) (sSeq (sSet 6 (eCall m__law_take (aCons (eV 0) (aCons (eBin (g2 opSub) (eV 3) (eC (.int 1))) aNil))))
    (sExp (eApp (eV 4) (eTup (aCons (eV 6) (aCons (eBin (g2 opAdd) (eBin (g2 opAdd) (eV 6) (eC (.int 1))) (eCall m__law_take (aCons (eV 0) (aCons (eBin (g2 opSub) (eBin (g2 opSub) (eV 3) (eC (.int 1))) (eV 6)) aNil)))) aNil)))))))
    (sRet (eTup (aCons (eV 3) (aCons (eUn opTuple (eV 4)) aNil))))))))))
noncomputable def m__law_any : Fx := fnD 2 5 b__law_any
noncomputable def b__law_few : Sx :=
  (sSeq (sSet 1 (eBin (g2 opSub) (eC (.int 4)) (eCall m__law_take (aCons (eV 0) (aCons (eC (.int 5)) aNil)))))
    (sSeq (sSet 2 (eLstO aNil))
    (sSeq (sFor (iRange1 (eCall m__law_take (aCons (eV 0) (aCons (eC (.int 4)) aNil)))) (tgName 3) (sIf (tOf (eBin (g2 opGt) (eV 1) (eC (.int 1)))) (sSeq (sSet 4 (eCall m__law_take (aCons (eV 0) (aCons (eBin (g2 opSub) (eV 1) (eC (.int 1))) aNil))))
    (sExp (eApp (eV 2) (eTup (aCons (eV 4) (aCons (eBin (g2 opAdd) (eBin (g2 opAdd) (eV 4) (eC (.int 1))) (eCall m__law_take (aCons (eV 0) (aCons (eBin (g2 opSub) (eBin (g2 opSub) (eV 1) (eC (.int 1))) (eV 4)) aNil)))) aNil)))))) sNil))
    (sRet (eTup (aCons (eV 1) (aCons (eUn opTuple (eV 2)) aNil)))))))
noncomputable def m__law_few : Fx := fnD 1 4 b__law_few
noncomputable def b__law_web : Sx :=
  (sRet (eIf (tOf (eBin (g2 opEqA) (eCall m__law_take (aCons (eV 0) (aCons (eC (.int 4)) aNil))) (eC (.int 0)))) (eCall m__law_few (aCons (eV 0) aNil)) (eCall m__law_any (aCons (eV 0) (aCons (eV 1) aNil)))))
noncomputable def m__law_web : Fx := fnD 2 0 b__law_web
noncomputable def b__law_load : Sx :=
  (sSeq (sSet 1 (eLc (iRange1 (eBin gIx (eV 0) (eC (.int 0)))) [2] (tgName 2) tTrue (eUn opLen (eLc (iSeq (eBin gIx (eV 0) (eC (.int 1)))) [3] (tgName 3) (tOf (eBin (g2 opIn) (eV 2) (eV 3))) (eC (.int 1))))))
    (sRet (eIf (tOf (eBin (g2 opGt) (eUn opLen (eV 1)) (eC (.int 0)))) (eUn opMax (eV 1)) (eC (.int 0)))))
noncomputable def m__law_load : Fx := fnD 1 3 b__law_load
noncomputable def b__law_counts : Sx :=
  (sRet (eLc (iRange1 (eV 1)) [2] (tgName 2) tTrue (eUn opLen (eLc (iSeq (eV 0)) [3] (tgName 3) (tOf (eBin (g2 opEqA) (eV 3) (eV 2))) (eC (.int 1))))))
noncomputable def m__law_counts : Fx := fnD 2 2 b__law_counts
noncomputable def b__law_clash : Sx :=
  (sRet (eOr (eBin (g2 opIn) (eBin gIx (eBin gIx (eBin gIx (eV 0) (eC (.int 1))) (eV 1)) (eC (.int 0))) (eBin gIx (eBin gIx (eV 0) (eC (.int 1))) (eV 2))) (eBin (g2 opIn) (eBin gIx (eBin gIx (eBin gIx (eV 0) (eC (.int 1))) (eV 1)) (eC (.int 1))) (eBin gIx (eBin gIx (eV 0) (eC (.int 1))) (eV 2)))))
noncomputable def m__law_clash : Fx := fnD 3 0 b__law_clash
noncomputable def b__law_laid : Sx :=
  (sSeq (sSet 3 (eTup aNil))
    (sSeq (sFor (iRange1 (eUn opLen (eBin gIx (eV 1) (eC (.int 1))))) (tgName 4) (sSeq (sSet 5 (eLc (iRange1 (eV 4)) [6] (tgName 6) (tOf (eCall m__law_clash (aCons (eV 1) (aCons (eV 4) (aCons (eV 6) aNil))))) (eBin gIx (eV 3) (eV 6))))
    (sSet 3 (eBin (g2 opAdd) (eV 3) (eTup (aCons (eCall m__law_pick (aCons (eV 0) (aCons (eLc (iRange1 (eV 2)) [7] (tgName 7) (tOf (eBin (g2 opNotIn) (eV 7) (eV 5))) (eV 7)) aNil))) aNil))))))
    (sRet (eV 3))))
noncomputable def m__law_laid : Fx := fnD 3 5 b__law_laid
noncomputable def b__law_is_right : Sx :=
  (sSeq (sIf (tOrM (tOf (eBin (g2 opNeA) (eUn opLen (eV 1)) (eUn opLen (eBin gIx (eV 0) (eC (.int 1)))))) (tOf (eBin (g2 opGt) (eUn opLen (eLc (iSeq (eV 1)) [4] (tgName 4) (tNotM (tOf (eChain (g2 opLe) (g2 opLt) (eC (.int 0)) (eV 4) (eV 2)))) (eC (.int 1)))) (eC (.int 0))))) (sRet (eC (.bl false))) sNil)
    (sSeq (sFor (iRange1 (eUn opLen (eV 1))) (tgName 3) (sIf (tOf (eBin (g2 opGt) (eUn opLen (eLc (iRange1 (eV 3)) [5] (tgName 5) (tAndM (tOf (eBin (g2 opEqA) (eBin gIx (eV 1) (eV 3)) (eBin gIx (eV 1) (eV 5)))) (tOf (eCall m__law_clash (aCons (eV 0) (aCons (eV 3) (aCons (eV 5) aNil)))))) (eC (.int 1)))) (eC (.int 0)))) (sRet (eC (.bl false))) sNil))
    (sRet (eC (.bl true)))))
noncomputable def m__law_is_right : Fx := fnD 3 3 b__law_is_right
noncomputable def b__law_changed : Sx :=
  (sSeq (sSet 4 (eLstO (aCons (eV 2) (aCons (eSl (eV 2) (oSome (eC (.int 1))) oNone) (aCons (eBin (g2 opAdd) (eV 2) (eTup (aCons (eC (.int 0)) aNil))) (aCons (eUn opRev (eV 2)) (aCons (eUn opTuple (eBin (g2 opMulA) (eLst (aCons (eC (.int 0)) aNil)) (eUn opLen (eV 2)))) aNil)))))))
    (sSeq (sIf (tOf (eBin (g2 opGt) (eUn opLen (eV 2)) (eC (.int 0)))) (sSeq (sSet 5 (eCall m__law_take (aCons (eV 0) (aCons (eUn opLen (eV 2)) aNil))))
    (sSeq (sFor (iSeq (eLst (aCons (eUn opNeg (eC (.int 1))) (aCons (eV 3) (aCons (eBin (g2 opSub) (eV 3) (eC (.int 1))) (aCons (eCall m__law_take (aCons (eV 0) (aCons (eV 3) aNil))) (aCons (eBin (g2 opMod) (eBin (g2 opAdd) (eBin gIx (eV 2) (eV 5)) (eC (.int 1))) (eV 3)) aNil))))))) (tgName 6) (sExp (eApp (eV 4) (eBin (g2 opAdd) (eBin (g2 opAdd) (eSl (eV 2) oNone (oSome (eV 5))) (eTup (aCons (eV 6) aNil))) (eSl (eV 2) (oSome (eBin (g2 opAdd) (eV 5) (eC (.int 1)))) oNone)))))
    (sFor (iRange1 (eUn opLen (eV 2))) (tgName 7) (sIf (tAndM (tOf (eBin (g2 opNeA) (eV 7) (eV 5))) (tOf (eCall m__law_clash (aCons (eV 1) (aCons (eV 5) (aCons (eV 7) aNil)))))) (sExp (eApp (eV 4) (eBin (g2 opAdd) (eBin (g2 opAdd) (eSl (eV 2) oNone (oSome (eV 5))) (eTup (aCons (eBin gIx (eV 2) (eV 7)) aNil))) (eSl (eV 2) (oSome (eBin (g2 opAdd) (eV 5) (eC (.int 1)))) oNone)))) sNil)))) sNil)
    (sRet (eV 4))))
noncomputable def m__law_changed : Fx := fnD 4 4 b__law_changed
noncomputable def b__law_rooms : Sx :=
  (sSeq (sSet 3 (eCall m__law_counts (aCons (eV 1) (aCons (eV 2) aNil))))
    (sSeq (sSet 4 (eCall m__law_is_right (aCons (eV 0) (aCons (eV 1) (aCons (eV 2) aNil)))))
    (sSeq (sFor (iSeq (eBin (g2 opAdd) (eLst (aCons (eC (.int 0)) (aCons (eUn opMax (eV 3)) (aCons (eBin (g2 opAdd) (eUn opMax (eV 3)) (eC (.int 1))) (aCons (eC (.int 40)) aNil))))) (eIf (tOf (eBin (g2 opGt) (eUn opMax (eV 3)) (eC (.int 0)))) (eLst (aCons (eBin (g2 opSub) (eUn opMax (eV 3)) (eC (.int 1))) aNil)) (eLst aNil)))) (tgName 5) (sIf (tNotM (tOf (eCall m__law_bool (aCons (eCall m_shows_rooms (aCons (eV 0) (aCons (eV 2) (aCons (eV 5) (aCons (eV 1) aNil))))) (aCons (eAnd (eV 4) (eBin (g2 opLe) (eUn opMax (eV 3)) (eV 5))) aNil))))) (sRet (eC (.bl false))) sNil))
    (sSeq (sIf (tNotM (tOf (eCall (m__law_same 6) (aCons (eCall m_day_counts (aCons (eV 1) (aCons (eV 2) aNil))) (aCons (eV 3) aNil))))) (sRet (eC (.bl false))) sNil)
    (sRet (eCall m__law_bool (aCons (eCall m_is_even (aCons (eV 1) (aCons (eV 2) aNil))) (aCons (eBin (g2 opLt) (eBin (g2 opSub) (eUn opMax (eV 3)) (eUn opMin (eV 3))) (eC (.int 2))) aNil))))))))
noncomputable def m__law_rooms : Fx := fnD 3 3 b__law_rooms
noncomputable def b__law_even : Sx :=
  (sSeq (sSet 1 (eBin (g2 opAdd) (eC (.int 1)) (eCall m__law_take (aCons (eV 0) (aCons (eC (.int 5)) aNil)))))
    (sSeq (sSet 2 (eBin (g2 opAdd) (eC (.int 1)) (eCall m__law_take (aCons (eV 0) (aCons (eC (.int 4)) aNil)))))
    (sSeq (sSet 3 (eUn opTuple (eBin (g2 opMulA) (eListRg (eV 1)) (eV 2))))
    (sSeq (sSet 4 (eCall m__law_take (aCons (eV 0) (aCons (eV 1) aNil))))
    (sSeq (sSet 5 (eBin (g2 opMod) (eBin (g2 opAdd) (eV 4) (eC (.int 1))) (eV 1)))
    (sSeq (sFor (iSeq (eLst (aCons (eV 3) (aCons (eBin (g2 opAdd) (eV 3) (eTup (aCons (eV 4) aNil))) (aCons (eBin (g2 opAdd) (eV 3) (eTup (aCons (eV 4) (aCons (eV 5) aNil)))) (aCons (eBin (g2 opAdd) (eV 3) (eTup (aCons (eV 4) (aCons (eV 4) aNil)))) (aCons (eUn opTuple (eLc (iSeq (eV 3)) [8] (tgName 8) (tOf (eBin (g2 opNeA) (eV 8) (eV 4))) (eV 8))) aNil))))))) (tgName 6) (sSeq (sSet 7 (eCall m__law_counts (aCons (eV 6) (aCons (eV 1) aNil))))
    (sIf (tNotM (tOf (eCall m__law_bool (aCons (eCall m_is_even (aCons (eV 6) (aCons (eV 1) aNil))) (aCons (eBin (g2 opLt) (eBin (g2 opSub) (eUn opMax (eV 7)) (eUn opMin (eV 7))) (eC (.int 2))) aNil))))) (sRet (eC (.bl false))) sNil)))
    (sRet (eAnd (eCall m__law_bool (aCons (eCall m_is_even (aCons (eBin (g2 opAdd) (eV 3) (eTup (aCons (eV 4) aNil))) (aCons (eV 1) aNil))) (aCons (eC (.bl true)) aNil))) (eCall m__law_bool (aCons (eCall m_is_even (aCons (eBin (g2 opAdd) (eV 3) (eTup (aCons (eV 4) (aCons (eV 4) aNil)))) (aCons (eV 1) aNil))) (aCons (eBin (g2 opEqA) (eV 1) (eC (.int 1))) aNil)))))))))))
noncomputable def m__law_even : Fx := fnD 1 8 b__law_even
noncomputable def b__law_level : Sx :=
  (sSeq (sIf (tOrM (tOf (eBin (g2 opNeA) (eUn opLen (eV 1)) (eUn opLen (eBin gIx (eV 0) (eC (.int 1)))))) (tOf (eBin (g2 opGt) (eUn opLen (eLc (iSeq (eV 1)) [7] (tgName 7) (tNotM (tOf (eChain (g2 opLe) (g2 opLt) (eC (.int 0)) (eV 7) (eV 2)))) (eC (.int 1)))) (eC (.int 0))))) (sRet (eC (.bl false))) sNil)
    (sSeq (sFor (iRange1 (eBin gIx (eV 0) (eC (.int 0)))) (tgName 3) (sSeq (sSet 4 (eLc (iRange1 (eUn opLen (eV 1))) [6] (tgName 6) (tOf (eBin (g2 opIn) (eV 3) (eBin gIx (eBin gIx (eV 0) (eC (.int 1))) (eV 6)))) (eBin gIx (eV 1) (eV 6))))
    (sSeq (sSet 5 (eCall m__law_counts (aCons (eV 4) (aCons (eV 2) aNil))))
    (sIf (tOf (eBin (g2 opGt) (eBin (g2 opSub) (eUn opMax (eV 5)) (eUn opMin (eV 5))) (eC (.int 1)))) (sRet (eC (.bl false))) sNil))))
    (sRet (eC (.bl true)))))
noncomputable def m__law_level : Fx := fnD 3 5 b__law_level
noncomputable def b__law_weeks : Sx :=
  (sSeq (sFor (iSeq (eLst (aCons (eC (.int 1)) (aCons (eC (.int 2)) (aCons (eC (.int 3)) aNil))))) (tgName 4) (sSeq (sSet 5 (eUn opTuple (eLc (iSeq (eV 2)) [9] (tgName 9) tTrue (eBin (g2 opDiv) (eV 9) (eV 4)))))
    (sSeq (sSet 6 (eBin (g2 opDiv) (eBin (g2 opSub) (eBin (g2 opAdd) (eV 3) (eV 4)) (eC (.int 1))) (eV 4)))
    (sFor (iSeq (eCall m__law_changed (aCons (eV 0) (aCons (eV 1) (aCons (eV 5) (aCons (eV 6) aNil)))))) (tgName 7) (sFor (iSeq (eLst (aCons (eV 6) (aCons (eC (.int 1)) aNil)))) (tgName 8) (sIf (tNotM (tOf (eCall m__law_bool (aCons (eCall m_are_level (aCons (eV 1) (aCons (eV 7) (aCons (eV 8) aNil)))) (aCons (eCall m__law_level (aCons (eV 1) (aCons (eV 7) (aCons (eV 8) aNil)))) aNil))))) (sRet (eC (.bl false))) sNil))))))
    (sRet (eC (.bl true))))
noncomputable def m__law_weeks : Fx := fnD 4 6 b__law_weeks
noncomputable def b__law_stretches : Sx :=
  (sSeq (sSet 4 (eLst (aCons (eV 2) (aCons (eUn opTuple (eLc (iSeq (eV 2)) [3] (tgName 3) tTrue (eBin (g2 opMulA) (eC (.int 2)) (eV 3)))) (aCons (eTupRg (eUn opLen (eV 2))) (aCons (eUn opTuple (eBin (g2 opMulA) (eLst (aCons (eC (.int 0)) aNil)) (eUn opLen (eV 2)))) aNil))))))
    (sSeq (sSet 4 (eBin (g2 opAdd) (eV 4) (eLst (aCons (eUn opTuple (eLc (iSeq (eV 2)) [3] (tgName 3) tTrue (eCall m__law_take (aCons (eV 0) (aCons (eC (.int 3)) aNil))))) (aCons (eUn opTuple (eLc (iSeq (eV 2)) [3] (tgName 3) tTrue (eBin (g2 opAdd) (eV 3) (eC (.int 7))))) aNil)))))
    (sSeq (sFor (iSeq (eV 4)) (tgName 5) (sSeq (sSet 6 (eC (.bl true)))
    (sSeq (sFor (iRange1 (eBin gIx (eV 1) (eC (.int 0)))) (tgName 7) (sSeq (sSet 8 (eLc (iRange1 (eUn opLen (eV 5))) [9] (tgName 9) (tOf (eBin (g2 opIn) (eV 7) (eBin gIx (eBin gIx (eV 1) (eC (.int 1))) (eV 9)))) (eBin gIx (eV 5) (eV 9))))
    (sFor (iSeq (eV 8)) (tgName 3) (sSet 6 (eAnd (eV 6) (eOr (eBin (g2 opEqA) (eV 3) (eUn opMax (eV 8))) (eBin (g2 opIn) (eBin (g2 opAdd) (eV 3) (eC (.int 1))) (eV 8))))))))
    (sIf (tNotM (tOf (eCall m__law_bool (aCons (eCall m_is_in_stretches (aCons (eV 1) (aCons (eV 5) aNil))) (aCons (eV 6) aNil))))) (sRet (eC (.bl false))) sNil))))
    (sRet (eC (.bl true))))))
noncomputable def m__law_stretches : Fx := fnD 3 7 b__law_stretches
noncomputable def b__law_homes : Sx :=
  (sSeq (sSet 2 (eCall m_fair_homes (aCons (eV 1) aNil)))
    (sSeq (sSet 3 (eLstO (aCons (eV 2) (aCons (eSl (eV 2) (oSome (eC (.int 1))) oNone) (aCons (eBin (g2 opAdd) (eV 2) (eTup (aCons (eC (.int 0)) aNil))) (aCons (eUn opTuple (eLc (iSeq (eBin gIx (eV 1) (eC (.int 1)))) [13] (tgName 13) tTrue (eBin gIx (eV 13) (eCall m__law_take (aCons (eV 0) (aCons (eC (.int 2)) aNil)))))) (aCons (eUn opTuple (eLc (iSeq (eBin gIx (eV 1) (eC (.int 1)))) [13] (tgName 13) tTrue (eBin gIx (eV 13) (eC (.int 0))))) aNil)))))))
    (sSeq (sIf (tOf (eBin (g2 opGt) (eUn opLen (eV 2)) (eC (.int 0)))) (sSeq (sSet 4 (eCall m__law_take (aCons (eV 0) (aCons (eUn opLen (eV 2)) aNil))))
    (sSeq (sAsg (eBin gIx (eBin gIx (eV 1) (eC (.int 1))) (eV 4)) (tgTup [5, 6]))
    (sFor (iSeq (eLst (aCons (eBin (g2 opSub) (eBin (g2 opAdd) (eV 5) (eV 6)) (eBin gIx (eV 2) (eV 4))) (aCons (eBin gIx (eV 1) (eC (.int 0))) (aCons (eUn opNeg (eC (.int 1))) (aCons (eBin (g2 opMod) (eBin (g2 opAdd) (eBin gIx (eV 2) (eV 4)) (eC (.int 1))) (eBin gIx (eV 1) (eC (.int 0)))) aNil)))))) (tgName 7) (sExp (eApp (eV 3) (eBin (g2 opAdd) (eBin (g2 opAdd) (eSl (eV 2) oNone (oSome (eV 4))) (eTup (aCons (eV 7) aNil))) (eSl (eV 2) (oSome (eBin (g2 opAdd) (eV 4) (eC (.int 1)))) oNone))))))) sNil)
    (sSeq (sFor (iSeq (eV 3)) (tgName 8) (sSeq (sSet 9 (eAnd (eBin (g2 opEqA) (eUn opLen (eV 8)) (eUn opLen (eBin gIx (eV 1) (eC (.int 1))))) (eBin (g2 opEqA) (eUn opLen (eLc (iRange1 (eUn opLen (eV 8))) [14] (tgName 14) (tOf (eBin (g2 opNotIn) (eBin gIx (eV 8) (eV 14)) (eBin gIx (eBin gIx (eV 1) (eC (.int 1))) (eV 14)))) (eC (.int 1)))) (eC (.int 0)))))
    (sSeq (sIf (tNotM (tOf (eCall m__law_bool (aCons (eCall m_is_homes (aCons (eV 1) (aCons (eV 8) aNil))) (aCons (eV 9) aNil))))) (sRet (eC (.bl false))) sNil)
    (sSeq (sSet 10 (eC (.bl true)))
    (sSeq (sFor (iRange1 (eBin gIx (eV 1) (eC (.int 0)))) (tgName 11) (sSeq (sSet 12 (eUn opLen (eLc (iSeq (eBin gIx (eV 1) (eC (.int 1)))) [13] (tgName 13) (tOf (eBin (g2 opIn) (eV 11) (eV 13))) (eC (.int 1)))))
    (sSet 10 (eAnd (eV 10) (eBin (g2 opLt) (eUn opAbs (eBin (g2 opSub) (eBin (g2 opMulA) (eC (.int 2)) (eUn opLen (eLc (iSeq (eV 8)) [7] (tgName 7) (tOf (eBin (g2 opEqA) (eV 7) (eV 11))) (eC (.int 1))))) (eV 12))) (eC (.int 2)))))))
    (sIf (tAndM (tOf (eV 9)) (tNotM (tOf (eCall m__law_bool (aCons (eCall m_is_fair (aCons (eV 1) (aCons (eV 8) aNil))) (aCons (eV 10) aNil)))))) (sRet (eC (.bl false))) sNil))))))
    (sRet (eC (.bl true)))))))
noncomputable def m__law_homes : Fx := fnD 2 13 b__law_homes
noncomputable def b_law : Sx :=
  (sSeq (sSet 1 (eCall m__law_deal (aCons (eV 0) aNil)))
    (sSeq (sSet 2 (eCall m__law_web (aCons (eV 1) (aCons (eC (.int 8)) aNil))))
    (sSeq (sSet 3 (eCall m__law_load (aCons (eV 2) aNil)))
    (sSeq (sSet 4 (eBi opMax2 (eC (.int 1)) (eBin (g2 opAdd) (eBin (g2 opSub) (eBin (g2 opMulA) (eC (.int 2)) (eV 3)) (eC (.int 1))) (eCall m__law_take (aCons (eV 1) (aCons (eC (.int 3)) aNil))))))
    (sSeq (sSet 5 (eCall m__law_laid (aCons (eV 1) (aCons (eV 2) (aCons (eV 4) aNil)))))
    (sSeq (sSet 6 (eBin (g2 opEqA) (eUn opLen (eLc (iRange1 (eUn opLen (eBin gIx (eV 2) (eC (.int 1))))) [10] (tgName 10) (tOf (eBin (g2 opIn) (eBin gIx (eBin gIx (eV 2) (eC (.int 1))) (eV 10)) (eSl (eBin gIx (eV 2) (eC (.int 1))) oNone (oSome (eV 10))))) (eC (.int 1)))) (eC (.int 0))))
    (sSeq (sFor (iSeq (eCall m__law_changed (aCons (eV 1) (aCons (eV 2) (aCons (eV 5) (aCons (eV 4) aNil)))))) (tgName 7) (sSeq (sSet 8 (eUn opMax (eBin (g2 opAdd) (eLst (aCons (eC (.int 0)) aNil)) (eUn opList (eV 7)))))
    (sSeq (sFor (iSeq (eLst (aCons (eV 4) (aCons (eV 8) (aCons (eBin (g2 opAdd) (eV 8) (eC (.int 1))) (aCons (eV 3) aNil)))))) (tgName 9) (sIf (tNotM (tOf (eCall m__law_bool (aCons (eCall m_is_right (aCons (eV 2) (aCons (eV 7) (aCons (eV 9) aNil)))) (aCons (eCall m__law_is_right (aCons (eV 2) (aCons (eV 7) (aCons (eV 9) aNil)))) aNil))))) (sRet (eC (.bl false))) sNil))
    (sSeq (sIf (tNotM (tOf (eCall m__law_rooms (aCons (eV 2) (aCons (eV 7) (aCons (eV 4) aNil)))))) (sRet (eC (.bl false))) sNil)
    (sIf (tAndM (tOf (eV 6)) (tNotM (tOf (eCall m__law_bool (aCons (eCall m_shows_class (aCons (eV 2) (aCons (eTup (aCons (eC (.int 1)) (aCons (eV 7) aNil))) aNil))) (aCons (eCall m__law_is_right (aCons (eV 2) (aCons (eV 7) (aCons (eV 3) aNil)))) aNil)))))) (sRet (eC (.bl false))) sNil)))))
    (sRet (eAnd (eCall m__law_even (aCons (eV 1) aNil)) (eAnd (eCall m__law_weeks (aCons (eV 1) (aCons (eV 2) (aCons (eV 5) (aCons (eV 4) aNil))))) (eAnd (eCall m__law_stretches (aCons (eV 1) (aCons (eV 2) (aCons (eV 5) aNil)))) (eCall m__law_homes (aCons (eV 1) (aCons (eV 2) aNil))))))))))))))
noncomputable def m_law : Fx := fnD 1 10 b_law
end Lw
/-! L1: evaluating mirrors. -/
namespace PL
open PySem PySem.Spec L2
set_option autoImplicit false

/-! ### equations -/
theorem look_d (m : Store) (x : D) : look m (.d x) = some x := rfl
theorem frzE_d (m : Store) (x : D) : frzE m (.d x) = some (x, m) := rfl
theorem opAdd_i (a b : Int) : opAdd (.int a) (.int b) = some (.int (a + b)) := rfl
theorem opI_i (f : Int → Int → Option D) (a b : Int) : opI f (.int a) (.int b) = f a b := rfl
theorem opMulA_l (a b : Int) (h : -(2 ^ 64) < a ∧ a < 2 ^ 64) : opMulA (.int a) (.int b) = some (.int (a * b)) := if_pos (okP_true (.inl h))
theorem opMulA_r (a b : Int) (h : -(2 ^ 64) < b ∧ b < 2 ^ 64) : opMulA (.int a) (.int b) = some (.int (a * b)) := if_pos (okP_true (.inr h))
theorem opEqA_i (a b : Int) : opEqA (.int a) (.int b) = some (.bl (decide (a = b))) := rfl
theorem opNeA_i (a b : Int) : opNeA (.int a) (.int b) = some (.bl (!decide (a = b))) := rfl
theorem opEqA_b (a b : Bool) : opEqA (.bl a) (.bl b) = some (.bl (decide (a = b))) := rfl
theorem opLen_l (xs : List D) : opLen (.lst xs) = some (.int xs.length) := rfl
theorem opLen_t (xs : List D) : opLen (.tup xs) = some (.int xs.length) := rfl
theorem opLen_s (xs : List Int) : opLen (.scr xs) = some (.int xs.length) := rfl
theorem opLen_d (xs : List (Key × D)) : opLen (.dic xs) = some (.int xs.length) := rfl
theorem gIx_d (x : D) (y : E) (m : Store) : gIx (.d x) y m = g2 opIx (.d x) y m := rfl
theorem gIx_own (c : Nat) (y : E) (m : Store) : gIx (.own c) y m = g2 opIx (.own c) y m := rfl
theorem gIx_deal (row : List Int) (c : Nat) (t : Int) (y : E) (m : Store) : gIx (.deal row c t) y m = (intOf m y).bind fun i => (dealAt row c t i).bind fun e => some (e, m) := rfl
theorem intOf_d (m : Store) (i : Int) : intOf m (.d (.int i)) = some i := rfl
theorem tOf_eq (f : Ex) (ρ : Rho) (m : Store) : tOf f ρ m = (f ρ m).bind fun p => match p.1 with | .d (.bl b) => some (b, p.2) | _ => none := by
  unfold tOf
  cases f ρ m with
  | none => rfl
  | some p =>
    obtain ⟨e, m'⟩ := p
    cases e with
    | d x => cases x <;> rfl
    | _ => rfl
theorem itemsOf_l (xs : List D) : itemsOf (.lst xs) = some xs := rfl
theorem itemsOf_t (xs : List D) : itemsOf (.tup xs) = some xs := rfl
theorem opTuple_l (xs : List D) : opTuple (.lst xs) = some (.tup xs) := rfl
theorem opTuple_t (xs : List D) : opTuple (.tup xs) = some (.tup xs) := rfl
theorem opList_l (xs : List D) : opList (.lst xs) = some (.lst xs) := rfl
theorem opList_t (xs : List D) : opList (.tup xs) = some (.lst xs) := rfl
theorem rangeE_zero (n : Nat) : rangeE 0 n = (List.range n).map fun (i : Nat) => D.int (i : Int) := by
  unfold rangeE
  exact List.map_congr_left fun i _ => by rw [Int.zero_add]
theorem iRange1_eq {f : Ex} {ρ : Rho} {m m' : Store} {e : E} {n : Int} (h : f ρ m = some (e, m')) (hi : intOf m' e = some n) (h1 : -1000000 ≤ n) (h2 : n ≤ 1000000) : iRange1 f ρ m = some ((List.range n.toNat).map fun (i : Nat) => D.int (i : Int), m') := by
  unfold iRange1
  rw [h, ← rangeE_zero]
  show (intOf m' e).bind _ = _
  rw [hi]
  show (if okP (-(big : Int) ≤ n ∧ n ≤ (big : Int)) = true then _ else _) = _
  have hb : (big : Int) = 1000000 := rfl
  rw [if_pos (okP_true ⟨by omega, by omega⟩)]
theorem iSeq_eq {f : Ex} {ρ : Rho} {m m' : Store} {d : D} {xs : List D} (h : f ρ m = some (.d d, m')) (hi : itemsOf d = some xs) : iSeq f ρ m = some (xs, m') := by
  unfold iSeq
  rw [h, Option.bind_some]
  show (itemsOf d).bind _ = _
  rw [hi]
  rfl
theorem lcLoop_map {α : Type} {g : Tg} {tt : Tx} {te : Ex} {ρ : Rho} {m : Store} (k : α → D) (c : α → Bool) (f : α → D) : ∀ (ys : List α), (∀ y ∈ ys, ∃ ρ1, g (.d (k y)) ρ = some ρ1 ∧ tt ρ1 m = some (c y, m) ∧ (c y = true → te ρ1 m = some (.d (f y), m))) →
    lcLoop g tt te ρ (ys.map k) m = some ((ys.filter c).map f, m)
  | [], _ => rfl
  | y :: ys, h => by
    obtain ⟨ρ1, h1, h2, h3⟩ := h y List.mem_cons_self
    have ih := lcLoop_map k c f ys fun z hz => h z (List.mem_cons_of_mem _ hz)
    rw [List.map_cons]
    show (g (.d (k y)) ρ).bind _ = _
    rw [h1]
    show (tt ρ1 m).bind _ = _
    rw [h2]
    cases q : c y with
    | true =>
      show (te ρ1 m).bind _ = _
      rw [h3 q, List.filter_cons, q]
      show (lcLoop g tt te ρ (ys.map k) m).bind _ = _
      rw [ih]
      rfl
    | false =>
      show lcLoop g tt te ρ (ys.map k) m = _
      rw [ih, List.filter_cons, q]
      rfl
theorem eLc_map {α : Type} {it : Ix} {vs : List Nat} {g : Tg} {tt : Tx} {te : Ex} {ρ : Rho} {m : Store} {ys : List α} {k : α → D} (c : α → Bool) (f : α → D) (hit : it ρ m = some (ys.map k, m)) (hl : ys.length ≤ 1000000)
    (h : ∀ y ∈ ys, ∃ ρ1, g (.d (k y)) (wipeE ρ vs) = some ρ1 ∧ tt ρ1 m = some (c y, m) ∧ (c y = true → te ρ1 m = some (.d (f y), m))) : eLc it vs g tt te ρ m = some (.d (.lst ((ys.filter c).map f)), m) := by
  unfold eLc
  rw [hit]
  show (lcLoop g tt te (wipeE ρ vs) (ys.map k) m).bind _ = _
  rw [lcLoop_map k c f ys h]
  show (if ((ys.filter c).map f).length ≤ big then _ else _) = _
  rw [if_pos]
  have := List.length_filter_le c ys
  rw [List.length_map]
  exact Nat.le_trans this hl
/-- without a test -/
theorem eLc_all {α : Type} {it : Ix} {vs : List Nat} {g : Tg} {te : Ex} {ρ : Rho} {m : Store} {ys : List α} {k : α → D} (f : α → D) (hit : it ρ m = some (ys.map k, m)) (hl : ys.length ≤ 1000000)
    (h : ∀ y ∈ ys, ∃ ρ1, g (.d (k y)) (wipeE ρ vs) = some ρ1 ∧ te ρ1 m = some (.d (f y), m)) : eLc it vs g tTrue te ρ m = some (.d (.lst (ys.map f)), m) := by
  have := eLc_map (tt := tTrue) (fun _ => true) f hit hl fun y hy => by
    obtain ⟨ρ1, h1, h2⟩ := h y hy
    exact ⟨ρ1, h1, rfl, fun _ => h2⟩
  rw [this, List.filter_eq_self.mpr fun _ _ => rfl]
/-! ### loops -/
theorem forL_step {tg : Tg} {body : Sx} {x : D} {xs : List D} {ρ ρ1 : Rho} {m : Store} {r : Fl × Rho × Store} (h1 : tg (.d x) ρ = some ρ1) (h2 : body ρ1 m = some r) : forL tg body (x :: xs) ρ m = match r.1 with
    | .nx => forL tg body xs r.2.1 r.2.2
    | .ct => forL tg body xs r.2.1 r.2.2
    | .bk => some (.nx, r.2.1, r.2.2)
    | .rt e => some (.rt e, r.2.1, r.2.2) := by
  show (tg (.d x) ρ).bind _ = _
  rw [h1]
  show (body ρ1 m).bind _ = _
  rw [h2]
  rfl
def FlP (Nx : Rho → Store → Prop) (Brk : Rho → Store → Prop) (Ret : E → Store → Prop) (fl : Fl) (ρ : Rho) (m : Store) : Prop := match fl with
  | .nx => Nx ρ m
  | .ct => Nx ρ m
  | .bk => Brk ρ m
  | .rt e => Ret e m
/-- what a loop does by what holds of it: the items taken so far, the names, the store; a way out may return -/
theorem forL_inv {α : Type} {tg : Tg} {body : Sx} {k : α → D} (Inv : List α → Rho → Store → Prop) (Ret : E → Store → Prop) (Brk : Rho → Store → Prop) :
    ∀ (ys pre : List α) (ρ : Rho) (m : Store), Inv pre ρ m →
    (∀ (p : List α) (y : α) (q : List α) (ρ : Rho) (m : Store), pre ++ ys = p ++ y :: q → Inv p ρ m → ∃ ρ1 fl ρ2 m2, tg (.d (k y)) ρ = some ρ1 ∧ body ρ1 m = some (fl, ρ2, m2) ∧ FlP (Inv (p ++ [y])) Brk Ret fl ρ2 m2) →
    (∃ ρ2 m2, forL tg body (ys.map k) ρ m = some (.nx, ρ2, m2) ∧ (Inv (pre ++ ys) ρ2 m2 ∨ Brk ρ2 m2)) ∨ ∃ e ρ2 m2, forL tg body (ys.map k) ρ m = some (.rt e, ρ2, m2) ∧ Ret e m2
  | [], pre, ρ, m, h, _ => .inl ⟨ρ, m, rfl, .inl (by rw [List.append_nil]; exact h)⟩
  | y :: ys, pre, ρ, m, h, step => by
    obtain ⟨ρ1, fl, ρ2, m2, h1, h2, h3⟩ := step pre y ys ρ m rfl h
    have e := forL_step (xs := ys.map k) h1 h2
    rw [List.map_cons, e]
    have again : Inv (pre ++ [y]) ρ2 m2 → _ := fun w => forL_inv Inv Ret Brk ys (pre ++ [y]) ρ2 m2 w fun p z q ρ m e => step p z q ρ m (by rw [← e]; simp)
    cases fl with
    | nx => have := again h3; rw [List.append_assoc] at this; exact this
    | ct => have := again h3; rw [List.append_assoc] at this; exact this
    | bk => exact .inl ⟨ρ2, m2, rfl, .inr h3⟩
    | rt v => exact .inr ⟨v, ρ2, m2, rfl, h3⟩
/-- a search: the store stays, the names as R says; a bad item returns e -/
theorem forL_search {α : Type} {tg : Tg} {body : Sx} {k : α → D} (bad : α → Prop) (R : Rho → Prop) (e : E) {m : Store} : ∀ (ys : List α) (ρ : Rho), R ρ →
    (∀ y ∈ ys, ∀ ρ, R ρ → ∃ ρ1, tg (.d (k y)) ρ = some ρ1 ∧ ((bad y ∧ ∃ ρ2, body ρ1 m = some (.rt e, ρ2, m)) ∨ (¬ bad y ∧ ∃ ρ2, R ρ2 ∧ body ρ1 m = some (.nx, ρ2, m)))) →
    ((∀ y ∈ ys, ¬ bad y) ∧ ∃ ρ2, R ρ2 ∧ forL tg body (ys.map k) ρ m = some (.nx, ρ2, m)) ∨ ((∃ y ∈ ys, bad y) ∧ ∃ ρ2, forL tg body (ys.map k) ρ m = some (.rt e, ρ2, m))
  | [], ρ, h, _ => .inl ⟨fun y hy => (nomatch hy), ρ, h, rfl⟩
  | y :: ys, ρ, h, step => by
    obtain ⟨ρ1, h1, h2⟩ := step y List.mem_cons_self ρ h
    rcases h2 with ⟨hb, ρ2, h3⟩ | ⟨hb, ρ2, hR, h3⟩
    · exact .inr ⟨⟨y, List.mem_cons_self, hb⟩, ρ2, by rw [List.map_cons, forL_step h1 h3]⟩
    · rcases forL_search bad R e ys ρ2 hR fun z hz => step z (List.mem_cons_of_mem _ hz) with ⟨g1, ρ3, g2, g3⟩ | ⟨⟨z, hz, g1⟩, ρ3, g3⟩
      · exact .inl ⟨fun z hz => by rcases List.mem_cons.mp hz with rfl | hz; exact hb; exact g1 z hz, ρ3, g2, by rw [List.map_cons, forL_step h1 h3]; exact g3⟩
      · exact .inr ⟨⟨z, List.mem_cons_of_mem _ hz, g1⟩, ρ3, by rw [List.map_cons, forL_step h1 h3]; exact g3⟩

theorem forL_srch {α : Type} {tg : Tg} {body : Sx} {k : α → D} {ys : List α} {ρ : Rho} {m : Store} {x : Option (Fl × Rho × Store)} (bad : α → Prop) (R : Rho → Prop) (e : E) (hx : forL tg body (ys.map k) ρ m = x) (h0 : R ρ)
    (step : ∀ y ∈ ys, ∀ ρ, R ρ → ∃ ρ1, tg (.d (k y)) ρ = some ρ1 ∧ ((bad y ∧ ∃ ρ2, body ρ1 m = some (.rt e, ρ2, m)) ∨ (¬ bad y ∧ ∃ ρ2, R ρ2 ∧ body ρ1 m = some (.nx, ρ2, m)))) :
    ((∀ y ∈ ys, ¬ bad y) ∧ ∃ ρ2, R ρ2 ∧ x = some (.nx, ρ2, m)) ∨ ((∃ y ∈ ys, bad y) ∧ ∃ ρ2, x = some (.rt e, ρ2, m)) := by
  rw [← hx]
  exact forL_search bad R e ys ρ h0 step
/-! ### webs -/
def pairD (p : Int × Int) : D := .tup [.int p.1, .int p.2]
def webD (n : Int) (ms : List (Int × Int)) : D := .tup [.int n, .tup (ms.map pairD)]
abbrev Ms := List (Int × Int)
def pr (ms : Ms) (i : Nat) : Int × Int := ms.getD i (0, 0)
theorem opIx_web0 (n : Int) (ms : Ms) : opIx (webD n ms) (.int 0) = some (.int n) := rfl
theorem opIx_web1 (n : Int) (ms : Ms) : opIx (webD n ms) (.int 1) = some (.tup (ms.map pairD)) := rfl
theorem atI_map' {α β : Type} (f : α → β) (xs : List α) (d : α) (i : Int) (h0 : 0 ≤ i) (h : i < xs.length) : atI (xs.map f) i = some (f (xs.getD i.toNat d)) := by
  obtain ⟨j, rfl⟩ : ∃ j : Nat, i = j := ⟨i.toNat, by omega⟩
  have hj : j < xs.length := by omega
  rw [atI_nat (j := j) (v := f (xs.getD j d)) (by rw [List.getElem?_map, List.getElem?_eq_getElem hj, List.getD_eq_getElem?_getD, List.getElem?_eq_getElem hj]; rfl)]
  rfl
theorem opIx_ms (ms : Ms) (i : Int) (h0 : 0 ≤ i) (h : i < ms.length) : opIx (.tup (ms.map pairD)) (.int i) = some (pairD (pr ms i.toNat)) := atI_map' pairD ms (0, 0) i h0 h
theorem opIx_li (xs : List Int) (i : Int) (h0 : 0 ≤ i) (h : i < xs.length) : opIx (.lst (xs.map .int)) (.int i) = some (.int (xs.getD i.toNat 0)) := atI_map' D.int xs 0 i h0 h
theorem opIx_ti (xs : List Int) (i : Int) (h0 : 0 ≤ i) (h : i < xs.length) : opIx (.tup (xs.map .int)) (.int i) = some (.int (xs.getD i.toNat 0)) := atI_map' D.int xs 0 i h0 h
theorem inD_pair (p : Int) (q : Int × Int) : inD (.int p) (pairD q) = some (decide (p = q.1 ∨ p = q.2)) := by
  unfold inD pairD
  show (match py (.int p), py (.tup [.int q.1, .int q.2]) with | some _, some _ => if depD (.int p) ≤ 64 ∧ depD (.tup [.int q.1, .int q.2]) ≤ 64 then some (decide (D.int p ∈ [D.int q.1, D.int q.2])) else none | _, _ => none) = _
  simp [py, pys, depD, depDs]
theorem tgTup_pair (i j : Nat) (p : Int × Int) (ρ : Rho) : tgTup [i, j] (.d (pairD p)) ρ = some ((ρ.set i (some (.d (.int p.1)))).set j (some (.d (.int p.2)))) := rfl
theorem opIn_pair (p : Int) (q : Int × Int) : opIn (.int p) (pairD q) = some (.bl (decide (p = q.1 ∨ p = q.2))) := by unfold opIn; rw [inD_pair]; rfl
theorem opNotIn_pair (p : Int) (q : Int × Int) : opNotIn (.int p) (pairD q) = some (.bl (!decide (p = q.1 ∨ p = q.2))) := by unfold opNotIn; rw [inD_pair]; rfl
theorem fnD_eq (n k : Nat) (body : Sx) (es : List E) (m : Store) (h : es.length = n) : fnD n k body es m = (body (es.map some ++ List.replicate k none) m).bind fun r => match r.1 with
  | .rt e => fin m.length r.2.2 e
  | .nx => some (.d .non, r.2.2.take m.length)
  | _ => none := if_pos h
theorem fin_d (m : Store) (x : D) : fin m.length m (.d x) = some (.d x, m) := by
  show some (E.d x, m.take m.length) = _
  rw [List.take_length]
end PL
namespace PL
open PySem PySem.Spec L2
set_option autoImplicit false
/-- truth of a proposition -/
noncomputable def tr (p : Prop) : Bool := @decide p (Classical.propDecidable p)
theorem tr_true {p : Prop} (h : p) : tr p = true := by unfold tr; exact @decide_eq_true p (Classical.propDecidable p) h
theorem tr_false {p : Prop} (h : ¬ p) : tr p = false := by unfold tr; exact @decide_eq_false p (Classical.propDecidable p) h
theorem tr_iff {p : Prop} : tr p = true ↔ p := ⟨fun h => Classical.byContradiction fun z => by
  rw [tr_false z] at h
  exact Bool.noConfusion h, tr_true⟩
theorem tr_congr {p q : Prop} (h : p ↔ q) : tr p = tr q := by
  by_cases z : p
  · rw [tr_true z, tr_true (h.mp z)]
  · rw [tr_false z, tr_false fun w => z (h.mpr w)]
theorem decide_tr {p : Prop} [i : Decidable p] : decide p = tr p := by
  by_cases z : p
  · rw [tr_true z]; exact decide_eq_true z
  · rw [tr_false z]; exact decide_eq_false z
theorem tr_eq {p : Prop} {b : Bool} (h : p ↔ b = true) : tr p = b := by
  cases b with
  | true => exact tr_true (h.mpr rfl)
  | false => exact tr_false fun z => by cases h.mp z
theorem chain_le_lt {fa fb fc : Ex} {ρ : Rho} {m : Store} {a b c : Int} (ha : fa ρ m = some (.d (.int a), m)) (hb : fb ρ m = some (.d (.int b), m)) (hc : fc ρ m = some (.d (.int c), m)) : eChain (g2 opLe) (g2 opLt) fa fb fc ρ m = some (.d (.bl (decide (a ≤ b ∧ b < c))), m) := by
  unfold eChain
  rw [ha, Option.bind_some, hb, Option.bind_some]
  show ((g2 opLe (.d (.int a)) (.d (.int b)) m)).bind _ = _
  show (if decide (a ≤ b) = true then (fc ρ m).bind _ else _) = _
  by_cases h : a ≤ b
  · rw [if_pos (decide_eq_true h), hc, Option.bind_some]
    show some (E.d (.bl (decide (b < c))), m) = _
    simp [h]
  · rw [if_neg (by simp [h])]
    simp [h]
end PL
namespace Lw
open PySem PySem.Spec L2 PL
set_option autoImplicit false
local macro_rules | `(tactic| simp_arith [$ls,*]) => `(tactic| simp only [eV, eC, eBin, g2, eUn, eBi, eCall, aNil, aCons, sSeq, sRet, sIf, sSet, sAsg, tgName, tgTup_pair, sNil, eIf, tAndM, tOrM, tNotM, eAnd, eOr, eNot, tTrue, sFor, tOf_eq, look_d, frzE_d, opAdd_i, opI_i, opEqA_i, opNeA_i, opEqA_b, opLen_l, opLen_t, opLen_s, opLen_d, gIx_d, gIx_own, intOf_d, itemsOf_l, itemsOf_t, opTuple_l, opTuple_t, opList_l, opList_t, opIx_web0, opIx_web1, opIn_pair, opNotIn_pair, wipeE,
  Option.bind_some, Option.bind_none, List.map_cons, List.map_nil, List.replicate, List.cons_append, List.nil_append, List.getElem?_cons_zero, List.getElem?_cons_succ, List.set_cons_zero, List.set_cons_succ, List.length_cons, List.length_nil, fin_d, Option.map_some, List.length_map, Int.toNat_natCast, if_true, if_false, Bool.false_eq_true, $ls,*])
local macro_rules | `(tactic| simp_arith) => `(tactic| simp_arith [Option.bind_some])

def meets (ms : Ms) (p : Int) : List Int := ((List.range ms.length).filter fun i => decide (p = (pr ms i).1 ∨ p = (pr ms i).2)).map fun (i : Nat) => (i : Int)
theorem rng {f : Ex} {ρ : Rho} {m : Store} {n : Nat} (h : f ρ m = some (.d (.int n), m)) (hn : n ≤ 1000000) : iRange1 f ρ m = some ((List.range n).map fun (i : Nat) => D.int (i : Int), m) := by
  rw [iRange1_eq h rfl (by omega) (by omega)]
  simp
theorem meetings_of_eq (n : Int) (ms : Ms) (p : Int) (m : Store) (hl : ms.length ≤ 1000) : m_meetings_of [.d (webD n ms), .d (.int p)] m = some (.d (.lst ((meets ms p).map .int)), m) := by
  unfold m_meetings_of
  rw [fnD_eq 2 1 b_meetings_of _ m rfl]
  unfold b_meetings_of
  simp_arith
  rw [eLc_map (ys := List.range ms.length) (k := fun (i : Nat) => D.int (i : Int)) (fun i => decide (p = (pr ms i).1 ∨ p = (pr ms i).2)) (fun (i : Nat) => .int (i : Int)) (rng (by simp_arith) (by omega)) (by simp; omega)]
  · simp_arith [meets, List.map_map]
    rfl
  · intro i hi
    have hi := List.mem_range.mp hi
    refine ⟨_, rfl, ?_, fun _ => ?_⟩
    · simp_arith [opIx_ms ms i (by omega) (by omega)]
    · simp_arith
theorem load_eq (n : Int) (ms : Ms) (p : Int) (m : Store) (hl : ms.length ≤ 1000) : m_load [.d (webD n ms), .d (.int p)] m = some (.d (.int (meets ms p).length), m) := by
  unfold m_load
  rw [fnD_eq 2 0 b_load _ m rfl]
  unfold b_load
  simp_arith [meetings_of_eq n ms p m hl]
def clashB (p q : Int × Int) : Bool := decide ((p.1 = q.1 ∨ p.1 = q.2) ∨ (p.2 = q.1 ∨ p.2 = q.2))
theorem ite_or {p q : Prop} [Decidable p] [Decidable q] {m : Store} : (if decide p = true then some (E.d (.bl true), m) else some (E.d (.bl (decide q)), m)) = some (E.d (.bl (decide (p ∨ q))), m) := by
  by_cases h : p <;> simp [h]
theorem clash_eq (n : Int) (ms : Ms) (i j : Int) (m : Store) (hi0 : 0 ≤ i) (hi : i < ms.length) (hj0 : 0 ≤ j) (hj : j < ms.length) : m_clash [.d (webD n ms), .d (.int i), .d (.int j)] m = some (.d (.bl (clashB (pr ms i.toNat) (pr ms j.toNat))), m) := by
  unfold m_clash
  rw [fnD_eq 3 2 b_clash _ m rfl]
  unfold b_clash
  simp_arith [opIx_ms ms i hi0 hi, opIx_ms ms j hj0 hj, ite_or]
  rfl
end Lw
namespace Lw
open PySem PySem.Spec L2 PL
set_option autoImplicit false
local macro_rules | `(tactic| simp_arith [$ls,*]) => `(tactic| try simp only [eV, eC, eBin, g2, eUn, eBi, eCall, aNil, aCons, sSeq, sRet, sIf, sSet, sAsg, tgName, tgTup_pair, sNil, eIf, tAndM, tOrM, tNotM, eAnd, eOr, eNot, tTrue, sFor, tOf_eq, look_d, frzE_d, opAdd_i, opI_i, opEqA_i, opNeA_i, opEqA_b, opLen_l, opLen_t, opLen_s, opLen_d, gIx_d, gIx_own, intOf_d, itemsOf_l, itemsOf_t, opTuple_l, opTuple_t, opList_l, opList_t, opIx_web0, opIx_web1, opIn_pair, opNotIn_pair, wipeE,
  Option.bind_some, Option.bind_none, List.map_cons, List.map_nil, List.replicate, List.cons_append, List.nil_append, List.getElem?_cons_zero, List.getElem?_cons_succ, List.set_cons_zero, List.set_cons_succ, List.length_cons, List.length_nil, fin_d, Option.map_some, List.length_map, Int.toNat_natCast, if_true, if_false, Bool.false_eq_true, $ls,*])
local macro_rules | `(tactic| simp_arith) => `(tactic| simp_arith [Option.bind_some])

/-! ### sums, greatest -/
def planD (plan : List Int) : D := .tup (plan.map .int)
theorem opMax_ints (ns : List Int) (v : Int) (h : maxI ns = some v) : opMax (.lst (ns.map .int)) = some (.int v) := by
  show (intsOf (ns.map .int)).bind _ = _
  rw [intsOf_map]
  show (maxI ns).map D.int = _
  rw [h]; rfl
theorem opMin_ints (ns : List Int) (v : Int) (h : minI ns = some v) : opMin (.lst (ns.map .int)) = some (.int v) := by
  show (intsOf (ns.map .int)).bind _ = _
  rw [intsOf_map]
  show (minI ns).map D.int = _
  rw [h]; rfl
def maxZ (ns : List Int) : Int := (maxI ns).getD 0
def minZ (ns : List Int) : Int := (minI ns).getD 0
theorem maxI_some {ns : List Int} (h : ns ≠ []) : maxI ns = some (maxZ ns) := by
  cases ns with
  | nil => exact absurd rfl h
  | cons x xs => rfl
theorem minI_some {ns : List Int} (h : ns ≠ []) : minI ns = some (minZ ns) := by
  cases ns with
  | nil => exact absurd rfl h
  | cons x xs => rfl
theorem opMax_eq (ns : List Int) (h : ns ≠ []) : opMax (.lst (ns.map .int)) = some (.int (maxZ ns)) := opMax_ints ns _ (maxI_some h)
theorem opMin_eq (ns : List Int) (h : ns ≠ []) : opMin (.lst (ns.map .int)) = some (.int (minZ ns)) := opMin_ints ns _ (minI_some h)
theorem opAdd_ll (xs ys : List D) (h : xs.length + ys.length ≤ 1000000) : opAdd (.lst xs) (.lst ys) = some (.lst (xs ++ ys)) := if_pos h
theorem opAdd_tt (xs ys : List D) (h : xs.length + ys.length ≤ 1000000) : opAdd (.tup xs) (.tup ys) = some (.tup (xs ++ ys)) := if_pos h
theorem eLst_eq {g : Ax} {ρ : Rho} {m m' : Store} {es : List E} {ds : List D} (h : g ρ m = some (es, m')) (hd : frzAll es m' = some (ds, m')) (hl : ds.length ≤ 1000000) : eLst g ρ m = some (.d (.lst ds), m') := by
  unfold eLst
  rw [h, Option.bind_some, hd, Option.bind_some]
  exact if_pos hl
theorem eTup_eq {g : Ax} {ρ : Rho} {m m' : Store} {es : List E} {ds : List D} (h : g ρ m = some (es, m')) (hd : frzAll es m' = some (ds, m')) (hl : ds.length ≤ 1000000) : eTup g ρ m = some (.d (.tup ds), m') := by
  unfold eTup
  rw [h, Option.bind_some, hd, Option.bind_some]
  exact if_pos hl
def loads (n : Int) (ms : Ms) : List Int := (List.range n.toNat).map fun (p : Nat) => ((meets ms (p : Int)).length : Int)
def gload (n : Int) (ms : Ms) : Int := maxZ (0 :: loads n ms)
theorem greatest_load_eq (n : Int) (ms : Ms) (m : Store) (hl : ms.length ≤ 1000) (h0 : 0 ≤ n) (h1 : n ≤ 1000) : m_greatest_load [.d (webD n ms)] m = some (.d (.int (gload n ms)), m) := by
  unfold m_greatest_load
  rw [fnD_eq 1 1 b_greatest_load _ m rfl]
  unfold b_greatest_load
  simp_arith
  rw [eLst_eq (es := [.d (.int 0)]) (ds := [.int 0]) (m' := m) (by simp_arith) rfl (by simp)]
  simp_arith
  rw [eLc_all (ys := List.range n.toNat) (k := fun (i : Nat) => D.int (i : Int)) (fun (p : Nat) => .int ((meets ms (p : Int)).length : Int)) (rng (n := n.toNat) (by simp_arith; rw [Int.toNat_of_nonneg h0]) (by omega)) (by simp; omega)]
  · have e : ([D.int 0] ++ (List.range n.toNat).map fun (p : Nat) => D.int ((meets ms (p : Int)).length : Int)) = (0 :: loads n ms).map .int := by
      simp [loads, List.map_map]
    simp_arith [opAdd_ll [D.int 0] ((List.range n.toNat).map fun (p : Nat) => D.int ((meets ms (p : Int)).length : Int)) (by simp; omega)]
    rw [← List.singleton_append, e, opMax_eq _ (by simp)]
    simp_arith [gload]
  · intro p hp
    refine ⟨_, rfl, ?_⟩
    simp_arith [load_eq n ms p m hl]
/-! ### is_right -/
def Right (ms : Ms) (plan : List Int) (k : Int) : Prop := plan.length = ms.length ∧ (∀ d ∈ plan, 0 ≤ d ∧ d < k) ∧ ∀ i j : Nat, j < i → i < plan.length → ¬ (plan.getD i 0 = plan.getD j 0 ∧ clashB (pr ms i) (pr ms j) = true)
theorem filter_none {α : Type} {c : α → Bool} {l : List α} : ((l.filter c).length = 0) ↔ ∀ x ∈ l, c x = false := by
  rw [List.length_eq_zero_iff, List.filter_eq_nil_iff]
  constructor
  · intro h x hx
    have := h x hx
    cases q : c x with
    | true => exact absurd q this
    | false => rfl
  · intro h x hx
    rw [h x hx]
    exact Bool.false_ne_true
theorem tup_items {xs : List Int} {i : Nat} {ρ : Rho} {m : Store} (h : ρ[i]? = some (some (.d (planD xs)))) : iSeq (eV i) ρ m = some (xs.map .int, m) := iSeq_eq (d := planD xs) (by unfold eV; rw [h]) rfl
theorem lst_items {xs : List D} {f : Ex} {ρ : Rho} {m m' : Store} (h : f ρ m = some (.d (.lst xs), m')) : iSeq f ρ m = some (xs, m') := iSeq_eq h rfl
theorem opLen_p (xs : List Int) : opLen (planD xs) = some (.int xs.length) := by unfold planD; rw [opLen_t, List.length_map]
theorem opIx_p (xs : List Int) (i : Int) (h0 : 0 ≤ i) (h : i < xs.length) : opIx (planD xs) (.int i) = some (.int (xs.getD i.toNat 0)) := opIx_ti xs i h0 h
theorem is_right_eq (n : Int) (ms : Ms) (plan : List Int) (k : Int) (m : Store) (hl : ms.length ≤ 1000) (hp : plan.length ≤ 1000) : m_is_right [.d (webD n ms), .d (planD plan), .d (.int k)] m = some (.d (.bl (tr (Right ms plan k))), m) := by
  unfold m_is_right
  rw [fnD_eq 3 3 b_is_right _ m rfl]
  unfold b_is_right
  simp_arith [opLen_p]
  by_cases e1 : (plan.length : Int) = ms.length
  · rw [decide_eq_true e1]
    simp_arith [Bool.not_true]
    have e1 : plan.length = ms.length := by omega
    rw [eLc_map (ys := plan) (k := D.int) (fun d => !decide (0 ≤ d ∧ d < k)) (fun _ => .int 1) (tup_items rfl) (by omega)]
    · simp_arith
      by_cases e2 : ∀ d ∈ plan, 0 ≤ d ∧ d < k
      · have e3 : (plan.filter fun d => !decide (0 ≤ d ∧ d < k)).length = 0 := filter_none.mpr fun d hd => by rw [decide_eq_true (e2 d hd)]; rfl
        rw [e3]
        simp_arith
        rw [if_neg (by simp)]
        simp_arith
        rw [rng (n := plan.length) (by simp_arith [opLen_p]) (by omega)]
        simp_arith
        generalize hx : forL _ _ _ _ _ = x
        refine Or.elim (forL_srch (fun i : Nat => ∃ j : Nat, j < i ∧ plan.getD i 0 = plan.getD j 0 ∧ clashB (pr ms i) (pr ms j) = true) (fun ρ => ∃ x3 x4, ρ = [some (.d (webD n ms)), some (.d (planD plan)), some (.d (.int k)), x3, x4, none]) (.d (.bl false)) hx ⟨none, none, rfl⟩ ?_) (fun ⟨h1, ρ2, ⟨x3, x4, e4⟩, h2⟩ => ?_) (fun ⟨h1, ρ2, h2⟩ => ?_)
        · intro i hi ρ hρ
          obtain ⟨x3, x4, rfl⟩ := hρ
          have hi := List.mem_range.mp hi
          refine ⟨_, rfl, ?_⟩
          simp_arith
          rw [rng (n := i) (by simp_arith) (by omega)]
          simp_arith
          generalize hx : forL _ _ _ _ _ = x
          refine Or.elim (forL_srch (fun j : Nat => plan.getD i 0 = plan.getD j 0 ∧ clashB (pr ms i) (pr ms j) = true) (fun ρ => ∃ x4, ρ = [some (.d (webD n ms)), some (.d (planD plan)), some (.d (.int k)), some (.d (.int i)), x4, none]) (.d (.bl false)) hx ⟨x4, rfl⟩ ?_) (fun ⟨h1, ρ2, ⟨x4, e4⟩, h2⟩ => ?_) (fun ⟨h1, ρ2, h2⟩ => ?_)
          · intro j hj ρ hρ
            obtain ⟨x4, rfl⟩ := hρ
            have hj := List.mem_range.mp hj
            refine ⟨_, rfl, ?_⟩
            simp_arith [opIx_p plan i (by omega) (by omega), opIx_p plan j (by omega) (by omega)]
            by_cases c1 : plan.getD i 0 = plan.getD j 0
            · rw [decide_eq_true c1]
              simp_arith [clash_eq n ms i j m (by omega) (by omega) (by omega) (by omega)]
              cases c2 : clashB (pr ms i) (pr ms j) with
              | true => exact .inl ⟨⟨c1, rfl⟩, _, rfl⟩
              | false => exact .inr ⟨fun z => by simp at z, _, ⟨_, rfl⟩, rfl⟩
            · rw [decide_eq_false c1]
              exact .inr ⟨fun z => c1 z.1, _, ⟨_, rfl⟩, rfl⟩
          · refine .inr ⟨fun ⟨j, hj, hc⟩ => h1 j (List.mem_range.mpr hj) hc, _, ⟨_, _, e4⟩, h2⟩
          · obtain ⟨j, hj, hc⟩ := h1
            exact .inl ⟨⟨j, List.mem_range.mp hj, hc⟩, ρ2, h2⟩
        · rw [h2, e4]
          simp_arith
          rw [tr_true]
          exact ⟨e1, e2, fun i j hj hi hc => h1 i (List.mem_range.mpr hi) ⟨j, hj, hc.1, hc.2⟩⟩
        · rw [h2]
          simp_arith
          rw [tr_false]
          intro hr
          obtain ⟨i, hi, j, hj, hc⟩ := h1
          exact hr.2.2 i j hj (List.mem_range.mp hi) hc
      · have e3 : ¬ (plan.filter fun d => !decide (0 ≤ d ∧ d < k)).length = 0 := fun z => e2 fun d hd => by
          have := filter_none.mp z d hd
          simpa using this
        rw [decide_eq_true (by omega)]
        simp_arith
        rw [tr_false]
        exact fun hr => e2 hr.2.1
    · intro d hd
      refine ⟨_, rfl, ?_, fun _ => by simp_arith⟩
      simp_arith [chain_le_lt (fa := eC (.int 0)) (fb := eV 5) (fc := eV 2) (m := m) (a := 0) (b := d) (c := k) (ρ := [some (.d (webD n ms)), some (.d (planD plan)), some (.d (.int k)), none, none, some (.d (.int d))]) rfl rfl rfl]
  · rw [decide_eq_false e1]
    simp_arith [Bool.not_false]
    rw [tr_false]
    exact fun hr => e1 (by rw [hr.1])
/-! ### day_counts, is_even, shows_rooms -/
def counts (plan : List Int) (k : Int) : List Int := (List.range k.toNat).map fun (c : Nat) => ((plan.filter fun d => decide (d = (c : Int))).length : Int)
theorem counts_ne {plan : List Int} {k : Int} (h : 1 ≤ k) : counts plan k ≠ [] := by
  unfold counts
  intro z
  have := congrArg List.length z
  rw [List.length_map, List.length_range, List.length_nil] at this
  omega
theorem day_counts_eq (plan : List Int) (k : Int) (m : Store) (hp : plan.length ≤ 1000) (h0 : 0 ≤ k) (h1 : k ≤ 1000) : m_day_counts [.d (planD plan), .d (.int k)] m = some (.d (.lst ((counts plan k).map .int)), m) := by
  unfold m_day_counts
  rw [fnD_eq 2 2 b_day_counts _ m rfl]
  unfold b_day_counts
  simp_arith
  rw [eLc_all (ys := List.range k.toNat) (k := fun (i : Nat) => D.int (i : Int)) (fun (c : Nat) => .int ((plan.filter fun d => decide (d = (c : Int))).length : Int)) (rng (n := k.toNat) (by simp_arith; rw [Int.toNat_of_nonneg h0]) (by omega)) (by simp; omega)]
  · simp_arith [counts, List.map_map]
    rfl
  · intro c hc
    refine ⟨_, rfl, ?_⟩
    simp_arith
    rw [eLc_map (ys := plan) (k := D.int) (fun d => decide (d = (c : Int))) (fun _ => .int 1) (tup_items rfl) (by omega)]
    · simp_arith
    · intro d hd
      exact ⟨_, rfl, by simp_arith, fun _ => by simp_arith⟩
theorem is_even_eq (plan : List Int) (k : Int) (m : Store) (hp : plan.length ≤ 1000) (h0 : 1 ≤ k) (h1 : k ≤ 1000) : m_is_even [.d (planD plan), .d (.int k)] m = some (.d (.bl (decide (maxZ (counts plan k) - minZ (counts plan k) < 2))), m) := by
  unfold m_is_even
  rw [fnD_eq 2 1 b_is_even _ m rfl]
  unfold b_is_even
  simp_arith [day_counts_eq plan k m hp (by omega) h1, opMax_eq _ (counts_ne h0), opMin_eq _ (counts_ne h0)]
theorem bl_and {p : Prop} {b : Bool} {m : Store} {f : Store → Option (E × Store)} (h : p → f m = some (.d (.bl b), m)) : ((some (tr p, m)).bind fun q : Bool × Store => if q.1 = true then f q.2 else some (.d (.bl false), q.2)) = some (.d (.bl (tr (p ∧ b = true))), m) := by
  rw [Option.bind_some]
  by_cases hp : p
  · rw [tr_true hp, if_pos rfl, h hp]
    cases b with
    | true => rw [tr_true ⟨hp, rfl⟩]
    | false => rw [tr_false fun z => by cases z.2]
  · rw [tr_false hp, if_neg Bool.false_ne_true, tr_false fun z => hp z.1]
theorem shows_rooms_eq (n : Int) (ms : Ms) (plan : List Int) (k r : Int) (m : Store) (hl : ms.length ≤ 1000) (hp : plan.length ≤ 1000) (h0 : 0 ≤ k) (h1 : k ≤ 1000) :
    m_shows_rooms [.d (webD n ms), .d (.int k), .d (.int r), .d (planD plan)] m = some (.d (.bl (tr (Right ms plan k ∧ ∀ c ∈ counts plan k, c ≤ r))), m) := by
  unfold m_shows_rooms
  rw [fnD_eq 4 1 b_shows_rooms _ m rfl]
  unfold b_shows_rooms
  simp_arith [is_right_eq n ms plan k m hl hp]
  by_cases hR : Right ms plan k
  · rw [tr_true hR]
    simp_arith
    rw [eLc_map (ys := counts plan k) (k := D.int) (fun c => decide (r < c)) (fun _ => .int 1) (lst_items (by simp_arith [day_counts_eq plan k m hp h0 h1])) (by unfold counts; simp; omega)]
    · simp_arith
      have e : decide ((((counts plan k).filter fun c => decide (r < c)).length : Int) = 0) = tr (Right ms plan k ∧ ∀ c ∈ counts plan k, c ≤ r) := by
        rw [decide_tr]
        refine tr_congr ⟨fun h => ⟨hR, fun c hc => ?_⟩, fun h => ?_⟩
        · have := filter_none.mp (by omega : ((counts plan k).filter fun c => decide (r < c)).length = 0) c hc
          simpa using this
        · have : ((counts plan k).filter fun c => decide (r < c)).length = 0 := filter_none.mpr fun c hc => by simpa using h.2 c hc
          omega
      rw [e]
    · intro c hc
      exact ⟨_, rfl, by simp_arith, fun _ => by simp_arith⟩
  · rw [tr_false hR]
    simp_arith
    rw [tr_false fun z => hR z.1]
/-! ### homes -/
theorem notDec {p : Prop} [Decidable p] (h : (!decide p) = false) : p := by
  by_cases z : p
  · exact z
  · rw [decide_eq_false z] at h
    cases h
theorem notDec' {p : Prop} [Decidable p] (h : p) : (!decide p) = false := by
  rw [decide_eq_true h]
  rfl
def Homes (ms : Ms) (homes : List Int) : Prop := homes.length = ms.length ∧ ∀ i : Nat, i < ms.length → (homes.getD i 0 = (pr ms i).1 ∨ homes.getD i 0 = (pr ms i).2)
theorem is_homes_eq (n : Int) (ms : Ms) (homes : List Int) (m : Store) (hl : ms.length ≤ 1000) (hp : homes.length ≤ 1000) : m_is_homes [.d (webD n ms), .d (planD homes)] m = some (.d (.bl (tr (Homes ms homes))), m) := by
  unfold m_is_homes
  rw [fnD_eq 2 1 b_is_homes _ m rfl]
  unfold b_is_homes
  simp_arith [opLen_p]
  by_cases e1 : (homes.length : Int) = ms.length
  · rw [decide_eq_true e1]
    simp_arith
    have e1 : homes.length = ms.length := by omega
    rw [eLc_map (ys := List.range homes.length) (k := fun (i : Nat) => D.int (i : Int)) (fun i => !decide (homes.getD i 0 = (pr ms i).1 ∨ homes.getD i 0 = (pr ms i).2)) (fun _ => .int 1) (rng (by simp_arith [opLen_p]) (by omega)) (by simp; omega)]
    · simp_arith
      have e : decide ((((List.range homes.length).filter fun i => !decide (homes.getD i 0 = (pr ms i).1 ∨ homes.getD i 0 = (pr ms i).2)).length : Int) = 0) = tr (Homes ms homes) := by
        rw [decide_tr]
        refine tr_congr ⟨fun h => ⟨e1, fun i hi => ?_⟩, fun h => ?_⟩
        · have := filter_none.mp (by omega : ((List.range homes.length).filter fun i => !decide (homes.getD i 0 = (pr ms i).1 ∨ homes.getD i 0 = (pr ms i).2)).length = 0) i (List.mem_range.mpr (by omega))
          exact notDec this
        · have : ((List.range homes.length).filter fun i => !decide (homes.getD i 0 = (pr ms i).1 ∨ homes.getD i 0 = (pr ms i).2)).length = 0 := filter_none.mpr fun i hi => notDec' (h.2 i (by have := List.mem_range.mp hi; omega))
          omega
      rw [e]
    · intro i hi
      have hi := List.mem_range.mp hi
      exact ⟨_, rfl, by simp_arith [opIx_p homes i (by omega) (by omega), opIx_ms ms i (by omega) (by omega)], fun _ => by simp_arith⟩
  · rw [decide_eq_false e1]
    simp_arith
    rw [tr_false fun z => e1 (by rw [z.1])]
def absZ (x : Int) : Int := if x < 0 then -x else x
theorem opAbs_i (x : Int) : opAbs (.int x) = some (.int (absZ x)) := rfl
theorem meets_mem {ms : Ms} {p z : Int} (h : z ∈ meets ms p) : 0 ≤ z ∧ z < ms.length ∧ (p = (pr ms z.toNat).1 ∨ p = (pr ms z.toNat).2) := by
  unfold meets at h
  obtain ⟨i, hi, rfl⟩ := List.mem_map.mp h
  obtain ⟨h1, h2⟩ := List.mem_filter.mp hi
  have h1 := List.mem_range.mp h1
  exact ⟨by omega, by omega, by simpa using h2⟩
theorem meets_len (ms : Ms) (p : Int) : (meets ms p).length ≤ ms.length := by
  unfold meets
  rw [List.length_map]
  have := List.length_filter_le (fun i => decide (p = (pr ms i).1 ∨ p = (pr ms i).2)) (List.range ms.length)
  rw [List.length_range] at this
  exact this
/-- the meetings of p at home -/
def atHome (ms : Ms) (homes : List Int) (p : Int) : List Int := (meets ms p).filter fun z => decide (homes.getD z.toNat 0 = p)
def Fair (n : Int) (ms : Ms) (homes : List Int) : Prop := ∀ p : Nat, p < n.toNat → absZ (2 * ((atHome ms homes p).length : Int) - ((meets ms p).length : Int)) ≤ 1
theorem is_fair_eq (n : Int) (ms : Ms) (homes : List Int) (m : Store) (hl : ms.length ≤ 1000) (hp : homes.length = ms.length) (h0 : 0 ≤ n) (h1 : n ≤ 1000) : m_is_fair [.d (webD n ms), .d (planD homes)] m = some (.d (.bl (tr (Fair n ms homes))), m) := by
  unfold m_is_fair
  rw [fnD_eq 2 4 b_is_fair _ m rfl]
  unfold b_is_fair
  simp_arith
  rw [rng (n := n.toNat) (by simp_arith; rw [Int.toNat_of_nonneg h0]) (by omega)]
  simp_arith
  generalize hx : forL _ _ _ _ _ = x
  refine Or.elim (forL_srch (fun p : Nat => ¬ absZ (2 * ((atHome ms homes p).length : Int) - ((meets ms p).length : Int)) ≤ 1) (fun ρ => ∃ x2 x3 x4 x5, ρ = [some (.d (webD n ms)), some (.d (planD homes)), x2, x3, x4, x5]) (.d (.bl false)) hx ⟨none, none, none, none, rfl⟩ ?_) (fun ⟨h1, ρ2, ⟨_, _, _, _, e4⟩, h2⟩ => ?_) (fun ⟨h1, ρ2, h2⟩ => ?_)
  · intro p hpp ρ hρ
    obtain ⟨x2, x3, x4, x5, rfl⟩ := hρ
    refine ⟨_, rfl, ?_⟩
    simp_arith [meetings_of_eq n ms p m hl]
    rw [eLc_map (ys := meets ms p) (k := D.int) (fun z => decide (homes.getD z.toNat 0 = (p : Int))) (fun z => .int z) (lst_items rfl) (by have := meets_len ms p; omega)]
    · simp_arith [opMulA_l 2 _ (by decide), opAbs_i]
      by_cases c : absZ (2 * ((atHome ms homes p).length : Int) - ((meets ms p).length : Int)) ≤ 1
      · refine .inr ⟨fun z => z c, ?_⟩
        have c2 : decide (1 < absZ (2 * (((meets ms p).filter fun z => decide (homes.getD z.toNat 0 = (p : Int))).length : Int) - ((meets ms p).length : Int))) = false := decide_eq_false (by unfold atHome at c; omega)
        rw [c2]
        exact ⟨_, ⟨_, _, _, _, rfl⟩, rfl⟩
      · refine .inl ⟨c, ?_⟩
        have c2 : decide (1 < absZ (2 * (((meets ms p).filter fun z => decide (homes.getD z.toNat 0 = (p : Int))).length : Int) - ((meets ms p).length : Int))) = true := decide_eq_true (by unfold atHome at c; omega)
        rw [c2]
        exact ⟨_, rfl⟩
    · intro z hz
      obtain ⟨z0, z1, _⟩ := meets_mem hz
      exact ⟨_, rfl, by simp_arith [opIx_p homes z z0 (by omega)], fun _ => by simp_arith⟩
  · rw [h2, e4]
    simp_arith
    rw [tr_true (p := Fair n ms homes) fun p hp => Classical.byContradiction (h1 p (List.mem_range.mpr hp))]
  · rw [h2]
    simp_arith
    obtain ⟨p, hp, hc⟩ := h1
    rw [tr_false (p := Fair n ms homes) fun z => hc (z p (List.mem_range.mp hp))]
/-! ### stretches, weeks -/
def mine (ms : Ms) (xs : List Int) (p : Int) : List Int := (meets ms p).map fun z => xs.getD z.toNat 0
theorem mine_len (ms : Ms) (xs : List Int) (p : Int) : (mine ms xs p).length ≤ ms.length := by
  unfold mine
  rw [List.length_map]
  exact meets_len ms p
def Stretch (ms : Ms) (plan : List Int) (p : Int) : Prop := mine ms plan p ≠ [] → maxZ (mine ms plan p) - minZ (mine ms plan p) + 1 = ((distinct (mine ms plan p)).length : Int)
theorem opLenSet_ints (ns : List Int) (h : ns.length ≤ 4000) : opLenSet (.lst (ns.map .int)) = some (.int (distinct ns).length) := by
  show (intsOf (ns.map .int)).bind _ = _
  rw [intsOf_map, Option.bind_some]
  exact if_pos h
theorem is_in_stretches_eq (n : Int) (ms : Ms) (plan : List Int) (m : Store) (hl : ms.length ≤ 1000) (hp : plan.length = ms.length) (h0 : 0 ≤ n) (h1 : n ≤ 1000) : m_is_in_stretches [.d (webD n ms), .d (planD plan)] m = some (.d (.bl (tr (∀ p : Nat, p < n.toNat → Stretch ms plan p))), m) := by
  unfold m_is_in_stretches
  rw [fnD_eq 2 3 b_is_in_stretches _ m rfl]
  unfold b_is_in_stretches
  simp_arith
  rw [rng (n := n.toNat) (by simp_arith; rw [Int.toNat_of_nonneg h0]) (by omega)]
  simp_arith
  generalize hx : forL _ _ _ _ _ = x
  refine Or.elim (forL_srch (fun p : Nat => ¬ Stretch ms plan p) (fun ρ => ∃ x2 x3 x4, ρ = [some (.d (webD n ms)), some (.d (planD plan)), x2, x3, x4]) (.d (.bl false)) hx ⟨none, none, none, rfl⟩ ?_) (fun ⟨h1, ρ2, ⟨_, _, _, e4⟩, h2⟩ => ?_) (fun ⟨h1, ρ2, h2⟩ => ?_)
  · intro p hpp ρ hρ
    obtain ⟨x2, x3, x4, rfl⟩ := hρ
    refine ⟨_, rfl, ?_⟩
    simp_arith
    rw [eLc_all (ys := meets ms p) (k := D.int) (fun z => .int (plan.getD z.toNat 0)) (lst_items (by simp_arith [meetings_of_eq n ms p m hl])) (by have := meets_len ms p; omega)]
    · have e : (meets ms p).map (fun z => D.int (plan.getD z.toNat 0)) = (mine ms plan p).map .int := by
        unfold mine
        rw [List.map_map]
        rfl
      rw [e]
      simp_arith
      by_cases c0 : mine ms plan p = []
      · rw [c0]
        exact .inr ⟨fun z => z fun w => absurd c0 w, _, ⟨_, _, _, rfl⟩, rfl⟩
      · have hlp : 0 < (mine ms plan p).length := List.length_pos_iff.mpr c0
        rw [decide_eq_true (by omega : (0 : Int) < ((mine ms plan p).length : Int))]
        have := mine_len ms plan p
        simp_arith [opMax_eq _ c0, opMin_eq _ c0, opLenSet_ints (mine ms plan p) (by omega)]
        by_cases c : maxZ (mine ms plan p) - minZ (mine ms plan p) + 1 = ((distinct (mine ms plan p)).length : Int)
        · rw [decide_eq_true c]
          exact .inr ⟨fun z => z fun _ => c, _, ⟨_, _, _, rfl⟩, rfl⟩
        · rw [decide_eq_false c]
          exact .inl ⟨fun z => c (z c0), _, rfl⟩
    · intro z hz
      obtain ⟨z0, z1, _⟩ := meets_mem hz
      exact ⟨_, rfl, by simp_arith [opIx_p plan z z0 (by omega)]⟩
  · rw [h2, e4]
    simp_arith
    rw [tr_true fun p hp => Classical.byContradiction (h1 p (List.mem_range.mpr hp))]
  · rw [h2]
    simp_arith
    obtain ⟨p, hp, hc⟩ := h1
    rw [tr_false fun z => hc (z p (List.mem_range.mp hp))]
def wcounts (ms : Ms) (weeks : List Int) (k p : Int) : List Int := (List.range k.toNat).map fun (c : Nat) => ((mine ms weeks p).count (c : Int) : Int)
def Level (n : Int) (ms : Ms) (weeks : List Int) (k : Int) : Prop := weeks.length = ms.length ∧ (∀ d ∈ weeks, 0 ≤ d ∧ d < k) ∧ ∀ p : Nat, p < n.toNat → maxZ (wcounts ms weeks k p) - minZ (wcounts ms weeks k p) ≤ 1
theorem opCount_ints (ns : List Int) (k : Int) : opCount (.lst (ns.map .int)) (.int k) = some (.int (ns.count k : Nat)) := by
  show (intsOf (ns.map .int)).map _ = _
  rw [intsOf_map]
  rfl
theorem wcounts_ne {ms : Ms} {weeks : List Int} {k p : Int} (h : 1 ≤ k) : wcounts ms weeks k p ≠ [] := by
  unfold wcounts
  intro z
  have := congrArg List.length z
  rw [List.length_map, List.length_range, List.length_nil] at this
  omega
theorem are_level_eq (n : Int) (ms : Ms) (weeks : List Int) (k : Int) (m : Store) (hl : ms.length ≤ 1000) (hp : weeks.length ≤ 1000) (h0 : 0 ≤ n) (h1 : n ≤ 1000) (hk : 1 ≤ k) (hk1 : k ≤ 1000) : m_are_level [.d (webD n ms), .d (planD weeks), .d (.int k)] m = some (.d (.bl (tr (Level n ms weeks k))), m) := by
  unfold m_are_level
  rw [fnD_eq 3 5 b_are_level _ m rfl]
  unfold b_are_level
  simp_arith [opLen_p]
  by_cases e1 : (weeks.length : Int) = ms.length
  · rw [decide_eq_true e1]
    simp_arith [Bool.not_true]
    have e1 : weeks.length = ms.length := by omega
    rw [eLc_map (ys := weeks) (k := D.int) (fun d => !decide (0 ≤ d ∧ d < k)) (fun _ => .int 1) (tup_items rfl) (by omega)]
    · simp_arith
      by_cases e2 : ∀ d ∈ weeks, 0 ≤ d ∧ d < k
      · have e3 : (weeks.filter fun d => !decide (0 ≤ d ∧ d < k)).length = 0 := filter_none.mpr fun d hd => by rw [decide_eq_true (e2 d hd)]; rfl
        rw [e3]
        simp_arith
        rw [if_neg (by simp)]
        simp_arith
        rw [rng (n := n.toNat) (by simp_arith; rw [Int.toNat_of_nonneg h0]) (by omega)]
        simp_arith
        generalize hx : forL _ _ _ _ _ = x
        refine Or.elim (forL_srch (fun p : Nat => ¬ (maxZ (wcounts ms weeks k p) - minZ (wcounts ms weeks k p) ≤ 1)) (fun ρ => ∃ x3 x4 x5 x6 x7, ρ = [some (.d (webD n ms)), some (.d (planD weeks)), some (.d (.int k)), x3, x4, x5, x6, x7]) (.d (.bl false)) hx ⟨none, none, none, none, none, rfl⟩ ?_) (fun ⟨h1, ρ2, ⟨_, _, _, _, _, e4⟩, h2⟩ => ?_) (fun ⟨h1, ρ2, h2⟩ => ?_)
        · intro p hpp ρ hρ
          obtain ⟨x3, x4, x5, x6, x7, rfl⟩ := hρ
          refine ⟨_, rfl, ?_⟩
          simp_arith
          rw [eLc_all (ys := meets ms p) (k := D.int) (fun z => .int (weeks.getD z.toNat 0)) (lst_items (by simp_arith [meetings_of_eq n ms p m hl])) (by have := meets_len ms p; omega)]
          · have e : (meets ms p).map (fun z => D.int (weeks.getD z.toNat 0)) = (mine ms weeks p).map .int := by
              unfold mine
              rw [List.map_map]
              rfl
            rw [e]
            simp_arith
            rw [eLc_all (ys := List.range k.toNat) (k := fun (i : Nat) => D.int (i : Int)) (fun (c : Nat) => .int ((mine ms weeks p).count (c : Int) : Int)) (rng (n := k.toNat) (by simp_arith; rw [Int.toNat_of_nonneg (by omega)]) (by omega)) (by simp; omega)]
            · have e : (List.range k.toNat).map (fun (c : Nat) => D.int ((mine ms weeks p).count (c : Int) : Int)) = (wcounts ms weeks k p).map .int := by
                unfold wcounts
                rw [List.map_map]
                rfl
              rw [e]
              simp_arith [opMax_eq _ (wcounts_ne hk), opMin_eq _ (wcounts_ne hk)]
              by_cases c : maxZ (wcounts ms weeks k p) - minZ (wcounts ms weeks k p) ≤ 1
              · rw [decide_eq_false (by omega)]
                exact .inr ⟨fun z => z c, _, ⟨_, _, _, _, _, rfl⟩, rfl⟩
              · rw [decide_eq_true (by omega)]
                exact .inl ⟨c, _, rfl⟩
            · intro c hc
              exact ⟨_, rfl, by simp_arith [eM2, opCount_ints]⟩
          · intro z hz
            obtain ⟨z0, z1, _⟩ := meets_mem hz
            exact ⟨_, rfl, by simp_arith [opIx_p weeks z z0 (by omega)]⟩
        · rw [h2, e4]
          simp_arith
          rw [tr_true ⟨e1, e2, fun p hp => Classical.byContradiction (h1 p (List.mem_range.mpr hp))⟩]
        · rw [h2]
          simp_arith
          obtain ⟨p, hp, hc⟩ := h1
          rw [tr_false fun z => hc (z.2.2 p (List.mem_range.mp hp))]
      · have e3 : ¬ (weeks.filter fun d => !decide (0 ≤ d ∧ d < k)).length = 0 := fun z => e2 fun d hd => by
          have := filter_none.mp z d hd
          simpa using this
        rw [decide_eq_true (by omega)]
        simp_arith
        rw [tr_false]
        exact fun hr => e2 hr.2.1
    · intro d hd
      refine ⟨_, rfl, ?_, fun _ => by simp_arith⟩
      simp_arith [chain_le_lt (fa := eC (.int 0)) (fb := eV 7) (fc := eV 2) (m := m) (a := 0) (b := d) (c := k) (ρ := [some (.d (webD n ms)), some (.d (planD weeks)), some (.d (.int k)), none, none, none, none, some (.d (.int d))]) rfl rfl rfl]
  · rw [decide_eq_false e1]
    simp_arith [Bool.not_false]
    rw [tr_false]
    exact fun hr => e1 (by rw [hr.1])
theorem shows_class_1 (n : Int) (ms : Ms) (plan : List Int) (m : Store) (hl : ms.length ≤ 1000) (hp : plan.length ≤ 1000) (h0 : 0 ≤ n) (h1 : n ≤ 1000) : m_shows_class [.d (webD n ms), .d (.tup [.int 1, planD plan])] m = some (.d (.bl (tr (Right ms plan (gload n ms)))), m) := by
  unfold m_shows_class
  rw [fnD_eq 2 2 b_shows_class _ m rfl]
  unfold b_shows_class
  simp_arith [tgTup, setAll]
  simp_arith [greatest_load_eq n ms m hl h0 h1, is_right_eq n ms plan (gload n ms) m hl hp]
  exact fin_d m _
theorem other_of_eq (n : Int) (ms : Ms) (i p : Int) (m : Store) (hi0 : 0 ≤ i) (hi : i < ms.length) : m_other_of [.d (webD n ms), .d (.int i), .d (.int p)] m = some (.d (.int (if p = (pr ms i.toNat).1 then (pr ms i.toNat).2 else (pr ms i.toNat).1)), m) := by
  unfold m_other_of
  rw [fnD_eq 3 2 b_other_of _ m rfl]
  unfold b_other_of
  simp_arith [opIx_ms ms i hi0 hi]
  by_cases c : p = (pr ms i.toNat).1
  · rw [decide_eq_true c, if_pos c]
    simp_arith
  · rw [decide_eq_false c, if_neg c]
    simp_arith
end Lw
namespace PL
open PySem PySem.Spec L2
set_option autoImplicit false
/-- it answers, and the answer is so -/
def W {α : Type} (o : Option α) (Q : α → Prop) : Prop := ∃ a, o = some a ∧ Q a
theorem W_some {α : Type} {a : α} {Q : α → Prop} : W (some a) Q ↔ Q a := ⟨fun ⟨b, e, q⟩ => by cases e; exact q, fun q => ⟨a, rfl, q⟩⟩
theorem W.step {α β : Type} {o : Option α} {K : α → Option β} {P : α → Prop} {Q : β → Prop} (h : W o P) (k : ∀ a, P a → W (K a) Q) : W (o.bind K) Q := by
  obtain ⟨a, e, p⟩ := h
  obtain ⟨b, e2, q⟩ := k a p
  exact ⟨b, by rw [e]; exact e2, q⟩
theorem W.eq {α β : Type} {o : Option α} {a : α} {K : α → Option β} {Q : β → Prop} (h : o = some a) (k : W (K a) Q) : W (o.bind K) Q := by
  rw [h]; exact k
theorem W.mono {α : Type} {o : Option α} {P Q : α → Prop} (h : W o P) (k : ∀ a, P a → Q a) : W o Q := by
  obtain ⟨a, e, p⟩ := h
  exact ⟨a, e, k a p⟩
theorem W.ite {α : Type} {p : Prop} [Decidable p] {x y : Option α} {Q : α → Prop} (h1 : p → W x Q) (h2 : ¬ p → W y Q) : W (if p then x else y) Q := by
  by_cases h : p
  · rw [if_pos h]; exact h1 h
  · rw [if_neg h]; exact h2 h
def Goes (fl : Fl) : Prop := fl = .nx ∨ fl = .ct
theorem goes_nx : Goes .nx := .inl rfl
theorem goes_ct : Goes .ct := .inr rfl
/-- a loop without a way out -/
theorem W.loop {α β : Type} {tg : Tg} {body : Sx} {k : α → D} {ys : List α} {ρ : Rho} {m : Store} {K : Fl × Rho × Store → Option β} {Q : β → Prop} (Inv : Nat → Rho → Store → Prop) (h0 : Inv 0 ρ m)
    (step : ∀ (i : Nat) (y : α), ys[i]? = some y → ∀ (ρ : Rho) (m : Store), Inv i ρ m → ∃ ρ1, tg (.d (k y)) ρ = some ρ1 ∧ W (body ρ1 m) fun r => Goes r.1 ∧ Inv (i + 1) r.2.1 r.2.2)
    (done : ∀ (ρ : Rho) (m : Store), Inv ys.length ρ m → W (K (.nx, ρ, m)) Q) : W ((forL tg body (ys.map k) ρ m).bind K) Q := by
  suffices h : ∀ (zs : List α) (i : Nat) (ρ : Rho) (m : Store), ys.drop i = zs → i ≤ ys.length → Inv i ρ m → ∃ ρ2 m2, forL tg body (zs.map k) ρ m = some (.nx, ρ2, m2) ∧ Inv ys.length ρ2 m2 by
    obtain ⟨ρ2, m2, e, q⟩ := h ys 0 ρ m rfl (Nat.zero_le _) h0
    rw [e]
    exact done ρ2 m2 q
  intro zs
  induction zs with
  | nil =>
    intro i ρ m e hi q
    have : i = ys.length := by
      have := congrArg List.length e
      rw [List.length_drop, List.length_nil] at this
      omega
    rw [← this]
    exact ⟨ρ, m, rfl, q⟩
  | cons z zs ih =>
    intro i ρ m e hi q
    have hl : i < ys.length := by
      have := congrArg List.length e
      rw [List.length_drop, List.length_cons] at this
      omega
    rw [List.drop_eq_getElem_cons hl] at e
    obtain ⟨e1, e2⟩ := List.cons.inj e
    obtain ⟨ρ1, h1, ⟨fl, ρ2, m2⟩, h2, h3, h4⟩ := step i z (by rw [List.getElem?_eq_getElem hl, e1]) ρ m q
    rw [List.map_cons, forL_step h1 h2]
    have go := ih (i + 1) ρ2 m2 e2 hl h4
    rcases h3 with h3 | h3
    · have h3 : fl = .nx := h3
      subst h3
      exact go
    · have h3 : fl = .ct := h3
      subst h3
      exact go
theorem W.loopE {α β : Type} {tg : Tg} {body : Sx} (k : α → D) (ys : List α) {items : List D} {ρ : Rho} {m : Store} {K : Fl × Rho × Store → Option β} {Q : β → Prop} (e : items = ys.map k) (Inv : Nat → Rho → Store → Prop) (h0 : Inv 0 ρ m)
    (step : ∀ (i : Nat) (y : α), ys[i]? = some y → ∀ (ρ : Rho) (m : Store), Inv i ρ m → ∃ ρ1, tg (.d (k y)) ρ = some ρ1 ∧ W (body ρ1 m) fun r => Goes r.1 ∧ Inv (i + 1) r.2.1 r.2.2)
    (done : ∀ (ρ : Rho) (m : Store), Inv ys.length ρ m → W (K (.nx, ρ, m)) Q) : W ((forL tg body items ρ m).bind K) Q := by
  rw [e]
  exact W.loop Inv h0 step done
/-- a comprehension that may change the store -/
theorem W.lc {α β : Type} {tg : Tg} {tt : Tx} {te : Ex} {k : α → D} {ys : List α} {ρ : Rho} {m : Store} {K : List D × Store → Option β} {Q : β → Prop} (Inv : Nat → List D → Store → Prop) (h0 : Inv 0 [] m)
    (step : ∀ (i : Nat) (y : α), ys[i]? = some y → ∀ (ds : List D) (m : Store), Inv i ds m → ∃ ρ1, tg (.d (k y)) ρ = some ρ1 ∧ W (tt ρ1 m) fun b => (b.1 = true → W (te ρ1 b.2) fun y => W (frzE y.2 y.1) fun d => Inv (i + 1) (ds ++ [d.1]) d.2) ∧ (b.1 = false → Inv (i + 1) ds b.2))
    (done : ∀ (ds : List D) (m : Store), Inv ys.length ds m → W (K (ds, m)) Q) : W ((lcLoop tg tt te ρ (ys.map k) m).bind K) Q := by
  suffices h : ∀ (zs : List α) (i : Nat) (ds : List D) (m : Store), ys.drop i = zs → i ≤ ys.length → Inv i ds m → ∃ es m2, lcLoop tg tt te ρ (zs.map k) m = some (es, m2) ∧ Inv ys.length (ds ++ es) m2 by
    obtain ⟨es, m2, e, q⟩ := h ys 0 [] m rfl (Nat.zero_le _) h0
    rw [e]
    exact done es m2 q
  intro zs
  induction zs with
  | nil =>
    intro i ds m e hi q
    have : i = ys.length := by
      have := congrArg List.length e
      rw [List.length_drop, List.length_nil] at this
      omega
    rw [← this]
    exact ⟨[], m, rfl, by rw [List.append_nil]; exact q⟩
  | cons z zs ih =>
    intro i ds m e hi q
    have hl : i < ys.length := by
      have := congrArg List.length e
      rw [List.length_drop, List.length_cons] at this
      omega
    rw [List.drop_eq_getElem_cons hl] at e
    obtain ⟨e1, e2⟩ := List.cons.inj e
    obtain ⟨ρ1, h1, ⟨b, m1⟩, h2, h3, h4⟩ := step i z (by rw [List.getElem?_eq_getElem hl, e1]) ds m q
    rw [List.map_cons]
    show ∃ es m2, ((tg (.d (k z)) ρ).bind _) = some (es, m2) ∧ _
    rw [h1]
    show ∃ es m2, ((tt ρ1 m).bind _) = some (es, m2) ∧ _
    rw [h2]
    cases b with
    | true =>
      obtain ⟨⟨y, m3⟩, g1, ⟨d, m4⟩, g2, g3⟩ := h3 rfl
      obtain ⟨es, m5, g4, g5⟩ := ih (i + 1) (ds ++ [d]) m4 e2 hl g3
      refine ⟨d :: es, m5, ?_, by rw [List.append_assoc] at g5; exact g5⟩
      show ((te ρ1 m1).bind _) = _
      rw [g1]
      show ((frzE m3 y).bind _) = _
      rw [g2]
      show ((lcLoop tg tt te ρ (zs.map k) m4).bind _) = _
      rw [g4]
      rfl
    | false => exact ih (i + 1) ds m1 e2 hl (h4 rfl)
theorem W.bnd {α : Type} {o : Option α} {Q : α → Prop} (h : W (o.bind some) Q) : W o Q := by
  cases o with
  | none => exact h
  | some a => exact h
theorem W.pos {α β : Type} {p : Prop} [Decidable p] {x y : Option α} {K : α → Option β} {Q : β → Prop} (h : p) (k : W (x.bind K) Q) : W ((if p then x else y).bind K) Q := by
  rw [if_pos h]; exact k
theorem W.pos' {α : Type} {p : Prop} [Decidable p] {x y : Option α} {Q : α → Prop} (h : p) (k : W x Q) : W (if p then x else y) Q := by
  rw [if_pos h]; exact k
/-- the numbers of a range -/
noncomputable def rgK (p : E × Store) : Option (List D × Store) := (intOf p.2 p.1).bind fun n => if okP (-(big : Int) ≤ n ∧ n ≤ (big : Int)) = true then some (rangeE 0 n.toNat, p.2) else none
theorem iRange1_bind (f : Ex) (ρ : Rho) (m : Store) : iRange1 f ρ m = (f ρ m).bind rgK := rfl
theorem rgK_eq {n : Int} {m : Store} (h : -1000000 ≤ n ∧ n ≤ 1000000) : rgK (.d (.int n), m) = some ((List.range n.toNat).map (fun (i : Nat) => D.int (i : Int)), m) := by
  have hb : (big : Int) = 1000000 := rfl
  show (if okP (-(big : Int) ≤ n ∧ n ≤ (big : Int)) = true then some (rangeE 0 n.toNat, m) else none) = _
  rw [if_pos (okP_true ⟨by omega, by omega⟩), rangeE_zero]
theorem W.rg {β : Type} {n : Int} {m : Store} {K : List D × Store → Option β} {Q : β → Prop} (h : -1000000 ≤ n ∧ n ≤ 1000000) (k : W (K ((List.range n.toNat).map (fun (i : Nat) => D.int (i : Int)), m)) Q) : W ((rgK (.d (.int n), m)).bind K) Q := W.eq (rgK_eq h) k
theorem iRange2_eq {f g : Ex} {ρ : Rho} {m m1 m' : Store} {e e' : E} {a n : Int} (h : f ρ m = some (e, m1)) (h2 : g ρ m1 = some (e', m')) (hi : intOf m' e = some a) (hi2 : intOf m' e' = some n) (hb : -1000000 ≤ n ∧ n ≤ 1000000 ∧ -1000000 ≤ a ∧ a ≤ 1000000) : iRange2 f g ρ m = some ((List.range (n - a).toNat).map fun (i : Nat) => D.int (a + (i : Int)), m') := by
  unfold iRange2
  rw [h]
  show (g ρ m1).bind _ = _
  rw [h2]
  show (intOf m' e).bind _ = _
  rw [hi]
  show (intOf m' e').bind _ = _
  rw [hi2]
  show (if okP (-(big : Int) ≤ a ∧ a ≤ (big : Int) ∧ -(big : Int) ≤ n ∧ n ≤ (big : Int)) = true then some (rangeE a (n - a).toNat, m') else none) = _
  have hb : (big : Int) = 1000000 := rfl
  rw [if_pos (okP_true ⟨by omega, by omega, by omega, by omega⟩)]
  rfl
theorem lb0 : (0 ≤ big) = True := eq_true (by decide)
theorem lb1 : (1 ≤ big) = True := eq_true (by decide)
theorem lb2 : (1 + 1 ≤ big) = True := eq_true (by decide)
theorem lb3 : (1 + 1 + 1 ≤ big) = True := eq_true (by decide)
theorem lb4 : (1 + 1 + 1 + 1 ≤ big) = True := eq_true (by decide)
theorem lb5 : (1 + 1 + 1 + 1 + 1 ≤ big) = True := eq_true (by decide)
theorem lb6 : (1 + 1 + 1 + 1 + 1 + 1 ≤ big) = True := eq_true (by decide)
theorem lb7 : (1 + 1 + 1 + 1 + 1 + 1 + 1 ≤ big) = True := eq_true (by decide)
theorem lb8 : (1 + 1 + 1 + 1 + 1 + 1 + 1 + 1 ≤ big) = True := eq_true (by decide)
theorem opNeg_i (a : Int) : opNeg (.int a) = some (.int (-a)) := rfl
theorem opSl_l (xs : List D) (a b : Option Int) : opSl (.lst xs) a b = some (.lst (cutD xs a b)) := rfl
theorem opSl_t (xs : List D) (a b : Option Int) : opSl (.tup xs) a b = some (.tup (cutD xs a b)) := rfl
theorem cutD_map {α β : Type} (f : α → β) (xs : List α) (a b : Option Int) : cutD (xs.map f) a b = (cutD xs a b).map f := by
  unfold cutD
  rw [List.length_map, List.map_take, List.map_drop]
theorem cutD_sub {α : Type} {xs : List α} {a b : Option Int} {x : α} (h : x ∈ cutD xs a b) : x ∈ xs := List.mem_of_mem_drop (List.mem_of_mem_take h)
theorem cutD_from {α : Type} (xs : List α) (k : Int) (h0 : 0 ≤ k) : cutD xs (some k) none = xs.drop k.toNat := by
  obtain ⟨j, rfl⟩ : ∃ j : Nat, k = j := ⟨k.toNat, by omega⟩
  unfold cutD
  rw [HT.sIx_nat, HT.sIx_none, Int.toNat_natCast]
  rw [List.take_of_length_le (by rw [List.length_drop]; omega)]
  by_cases h : j ≤ xs.length
  · rw [Nat.min_eq_left h]
  · rw [Nat.min_eq_right (by omega), List.drop_eq_nil_of_le (by omega), List.drop_eq_nil_of_le (by omega)]
theorem cutD_to {α : Type} (xs : List α) (k : Int) (h0 : 0 ≤ k) : cutD xs none (some k) = xs.take k.toNat := by
  obtain ⟨j, rfl⟩ : ∃ j : Nat, k = j := ⟨k.toNat, by omega⟩
  unfold cutD
  rw [HT.sIx_nat, HT.sIx_none, Int.toNat_natCast, Nat.sub_zero, List.drop_zero]
  by_cases h : j ≤ xs.length
  · rw [Nat.min_eq_left h]
  · rw [Nat.min_eq_right (by omega), List.take_of_length_le (by omega), List.take_of_length_le (by omega)]
/-- the counter of a deal -/
abbrev ck (c : Int) : O := .lst [.int c]
theorem cellL_ck (c : Int) (r : Store) : cellL (ck c :: r) 0 = some [.int c] := rfl
theorem look_ck (c : Int) (r : Store) : look (ck c :: r) (.own 0) = some (.lst [.int c]) := rfl
theorem opIx_ck (c : Int) : opIx (.lst [.int c]) (.int 0) = some (.int c) := rfl
end PL
namespace Lw
open PySem PySem.Spec L2 PL
set_option autoImplicit false
local macro_rules | `(tactic| simp_arith [$ls,*]) => `(tactic| try simp (maxSteps := 2000000) only [eV, eC, eBin, g2, eUn, eBi, eCall, aNil, aCons, sSeq, sRet, sIf, sSet, sAsg, sExp, tgName, tgTup_pair, sNil, eIf, tAndM, tOrM, tNotM, eAnd, eOr, eNot, tTrue, sFor, iRange1_bind, iSeq, eSl, oNone, oSome, opNeg_i, opSl_l, opSl_t, tOf_eq, look_d, frzE_d, frzAll, eLst, eTup, eLstO, eApp, sPutL, cellL, look, frzE, gIx_d, gIx_own, gIx_deal, dealAt, intOf, opAdd_i, opI_i, opEqA_i, opNeA_i, opEqA_b, opLen_l, opLen_t, opLen_s, opLen_d, itemsOf_l, itemsOf_t, opTuple_l, opTuple_t, opList_l, opList_t, opIx_web0, opIx_web1, opIx_ck, opIn_pair, opNotIn_pair, wipeE, fin, ck, 
  Option.bind_some, Option.bind_none, Option.bind_assoc, W_some, List.map_cons, List.map_nil, List.replicate, List.cons_append, List.nil_append, List.getElem?_cons_zero, List.getElem?_cons_succ, List.set_cons_zero, List.set_cons_succ, List.length_cons, List.length_nil, List.take_succ_cons, List.take_zero, List.take_nil, List.take_length, List.length_append, Nat.zero_add, Nat.lt_irrefl, Option.map_some, List.length_map, Int.toNat_natCast, if_true, if_false, Bool.false_eq_true, Bool.not_true, Bool.not_false, decide_true, decide_false, reduceCtorEq, lb0, lb1, lb2, lb3, lb4, lb5, lb6, lb7, lb8, $ls,*])
local macro_rules | `(tactic| simp_arith) => `(tactic| simp_arith [Option.bind_some])
abbrev dl (row : List Int) (t : Int) : E := .deal row 0 t
theorem take_spec {row : List Int} {t n c : Int} {r : Store} (hn : 0 < n) (h0 : 0 ≤ c) (h1 : c ≤ 1000000000) : W (m__law_take [dl row t, .d (.int n)] (ck c :: r)) fun p => ∃ v, 0 ≤ v ∧ v < n ∧ p = (.d (.int v), ck (c + 1) :: r) := by
  unfold m__law_take
  rw [fnD_eq 2 1 b__law_take _ _ rfl]
  unfold b__law_take
  have e : ixN 1 0 = some 0 := rfl
  simp_arith [e]
  by_cases hc : c < ((row.map D.int).length : Int)
  · rw [List.length_map] at hc
    rw [decide_eq_true hc]
    simp_arith
    rw [opIx_li row c h0 hc]
    simp_arith
    rw [if_pos hn]
    simp_arith
    exact ⟨_, Int.emod_nonneg _ (by omega), Int.emod_lt_of_pos _ hn, rfl⟩
  · rw [List.length_map] at hc
    rw [decide_eq_false hc]
    simp_arith [opMulA_r _ 7919 (by decide), opMulA_r _ 31 (by decide), opMulA_r _ 17 (by decide), opMulA_l c c ⟨by omega, by omega⟩]
    rw [if_pos (by decide)]
    simp_arith
    rw [if_pos hn]
    simp_arith
    exact ⟨_, Int.emod_nonneg _ (by omega), Int.emod_lt_of_pos _ hn, rfl⟩
def Good (n : Int) (ms : Ms) : Prop := ∀ p ∈ ms, 0 ≤ p.1 ∧ p.1 < p.2 ∧ p.2 < n
def WebOk (most n : Int) (ms : Ms) : Prop := 0 ≤ n ∧ n ≤ 9 ∧ (ms.length : Int) ≤ most ∧ Good n ms
theorem good_nil (n : Int) : Good n [] := fun _ h => nomatch h
theorem Good.snoc {n : Int} {ms : Ms} {p : Int × Int} (h : Good n ms) (hp : 0 ≤ p.1 ∧ p.1 < p.2 ∧ p.2 < n) : Good n (ms ++ [p]) := fun q hq => by
  rcases List.mem_append.mp hq with hq | hq
  · exact h q hq
  · rw [List.mem_singleton.mp hq]; exact hp
theorem opTuple_web (n : Int) (ds : Ms) : E.d (.tup [.int n, .tup (ds.map pairD)]) = .d (webD n ds) := rfl
theorem few_spec {row : List Int} {t c most : Int} (h0 : 0 ≤ c) (h1 : c ≤ 1000000) (hm : 3 ≤ most) : W (m__law_few [dl row t] [ck c]) fun p => ∃ n ms c', WebOk most n ms ∧ c ≤ c' ∧ c' ≤ c + 20 ∧ p = (.d (webD n ms), [ck c']) := by
  unfold m__law_few
  rw [fnD_eq 1 4 b__law_few _ _ rfl]
  unfold b__law_few
  simp_arith
  refine W.step (take_spec (by omega) (by omega) (by omega)) ?_
  rintro _ ⟨v, v0, v1, rfl⟩
  simp_arith
  refine W.step (take_spec (by omega) (by omega) (by omega)) ?_
  rintro _ ⟨w, w0, w1, rfl⟩
  simp_arith
  refine W.rg ⟨by omega, by omega⟩ ?_
  simp_arith
  refine W.loop (fun i ρ m => ∃ x3 x4 ds c', ρ = [some (dl row t), some (.d (.int (4 - v))), some (.own 1), x3, x4] ∧ m = [ck c', .lst (ds.map pairD)] ∧ (ds.length : Int) ≤ i ∧ Good (4 - v) ds ∧ c ≤ c' ∧ c' ≤ c + 2 + 2 * i) ?_ ?_ ?_
  · exact ⟨_, _, [], _, rfl, rfl, by simp, good_nil _, by omega, by omega⟩
  · rintro i y hy ρ m ⟨x3, x4, ds, c', rfl, rfl, hl, hg, hc0, hc1⟩
    have := (List.getElem?_eq_some_iff.mp hy).1
    rw [List.length_range] at this
    refine ⟨_, rfl, ?_⟩
    simp_arith
    by_cases hv : 1 < 4 - v
    · rw [decide_eq_true hv]
      simp_arith
      refine W.step (take_spec (by omega) (by omega) (by omega)) ?_
      rintro _ ⟨a, a0, a1, rfl⟩
      simp_arith
      refine W.step (take_spec (by omega) (by omega) (by omega)) ?_
      rintro _ ⟨b, b0, b1, rfl⟩
      simp_arith
      rw [if_pos (by unfold big; omega)]
      simp_arith
      refine ⟨goes_nx, _, _, ds ++ [(a, a + 1 + b)], _, rfl, by rw [List.map_append]; rfl, by simp; omega, hg.snoc ⟨by omega, by simp; omega, by simp; omega⟩, by omega, by omega⟩
    · rw [decide_eq_false hv]
      simp_arith
      exact ⟨goes_nx, _, _, ds, _, rfl, rfl, by omega, hg, by omega, by omega⟩
  · rintro ρ m ⟨x3, x4, ds, c', rfl, rfl, hl, hg, hc0, hc1⟩
    rw [List.length_range] at *
    simp_arith
    exact ⟨_, ds, _, ⟨by omega, by omega, by omega, hg⟩, hc0, by omega, rfl⟩
end Lw
namespace Lw
open PySem PySem.Spec L2 PL
set_option autoImplicit false
local macro_rules | `(tactic| simp_arith [$ls,*]) => `(tactic| try simp (maxSteps := 2000000) only [eV, eC, eBin, g2, eUn, eBi, eCall, aNil, aCons, sSeq, sRet, sIf, sSet, sAsg, sExp, tgName, tgTup_pair, sNil, eIf, tAndM, tOrM, tNotM, eAnd, eOr, eNot, tTrue, sFor, iRange1_bind, iSeq, eSl, oNone, oSome, opNeg_i, opSl_l, opSl_t, tOf_eq, look_d, frzE_d, frzAll, eLst, eTup, eLstO, eApp, sPutL, cellL, look, frzE, gIx_d, gIx_own, gIx_deal, dealAt, intOf, opAdd_i, opI_i, opEqA_i, opNeA_i, opEqA_b, opLen_l, opLen_t, opLen_s, opLen_d, itemsOf_l, itemsOf_t, opTuple_l, opTuple_t, opList_l, opList_t, opIx_web0, opIx_web1, opIx_ck, opIn_pair, opNotIn_pair, wipeE, fin, ck, 
  Option.bind_some, Option.bind_none, Option.bind_assoc, W_some, List.map_cons, List.map_nil, List.replicate, List.cons_append, List.nil_append, List.getElem?_cons_zero, List.getElem?_cons_succ, List.set_cons_zero, List.set_cons_succ, List.length_cons, List.length_nil, List.take_succ_cons, List.take_zero, List.take_nil, List.take_length, List.length_append, Nat.zero_add, Nat.lt_irrefl, Option.map_some, List.length_map, Int.toNat_natCast, if_true, if_false, Bool.false_eq_true, Bool.not_true, Bool.not_false, decide_true, decide_false, reduceCtorEq, lb0, lb1, lb2, lb3, lb4, lb5, lb6, lb7, lb8, $ls,*])
local macro_rules | `(tactic| simp_arith) => `(tactic| simp_arith [Option.bind_some])
theorem sided_spec {row : List Int} {t c most : Int} (h0 : 0 ≤ c) (h1 : c ≤ 1000000) (hm : 0 ≤ most) (hm2 : most ≤ 100) : W (m__law_sided [dl row t, .d (.int 4), .d (.int most)] [ck c]) fun p => ∃ n ms c', WebOk most n ms ∧ c ≤ c' ∧ c' ≤ c + 300 ∧ p = (.d (webD n ms), [ck c']) := by
  unfold m__law_sided
  rw [fnD_eq 3 4 b__law_sided _ _ rfl]
  unfold b__law_sided
  simp_arith
  refine W.step (take_spec (by omega) (by omega) (by omega)) ?_
  rintro _ ⟨v, v0, v1, rfl⟩
  simp_arith
  refine W.step (take_spec (by omega) (by omega) (by omega)) ?_
  rintro _ ⟨w, w0, w1, rfl⟩
  simp_arith
  refine W.step (take_spec (by omega) (by omega) (by omega)) ?_
  rintro _ ⟨z, z0, z1, rfl⟩
  simp_arith
  refine W.rg ⟨by omega, by omega⟩ ?_
  simp_arith
  refine W.loop (fun i ρ m => ∃ x6 ds c', ρ = [some (dl row t), some (.d (.int 4)), some (.d (.int most)), some (.d (.int (1 + v))), some (.d (.int (1 + w))), some (.own 1), x6] ∧ m = [ck c', .lst (ds.map pairD)] ∧ (ds.length : Int) ≤ i ∧ Good (1 + v + (1 + w)) ds ∧ c ≤ c' ∧ c' ≤ c + 3 + 2 * i) ?_ ?_ ?_
  · exact ⟨_, [], _, rfl, rfl, by simp, good_nil _, by omega, by omega⟩
  · rintro i y hy ρ m ⟨x6, ds, c', rfl, rfl, hl, hg, hc0, hc1⟩
    have := (List.getElem?_eq_some_iff.mp hy).1
    rw [List.length_range] at this
    refine ⟨_, rfl, ?_⟩
    simp_arith
    refine W.step (take_spec (by omega) (by omega) (by omega)) ?_
    rintro _ ⟨a, a0, a1, rfl⟩
    simp_arith
    refine W.step (take_spec (by omega) (by omega) (by omega)) ?_
    rintro _ ⟨b, b0, b1, rfl⟩
    simp_arith
    rw [if_pos (by unfold big; omega)]
    simp_arith
    refine ⟨goes_nx, _, ds ++ [(a, 1 + v + b)], _, rfl, by rw [List.map_append]; rfl, by simp; omega, hg.snoc ⟨by omega, by simp; omega, by simp; omega⟩, by omega, by omega⟩
  · rintro ρ m ⟨x6, ds, c', rfl, rfl, hl, hg, hc0, hc1⟩
    rw [List.length_range] at *
    simp_arith
    exact ⟨_, ds, _, ⟨by omega, by omega, by omega, hg⟩, hc0, by omega, rfl⟩
theorem getElem?_range {n i y : Nat} (h : (List.range n)[i]? = some y) : i < n ∧ y = i := by
  obtain ⟨h1, h2⟩ := List.getElem?_eq_some_iff.mp h
  rw [List.length_range] at h1
  rw [List.getElem_range] at h2
  exact ⟨h1, h2.symm⟩
theorem plain_spec {row : List Int} {t c most : Int} (h0 : 0 ≤ c) (h1 : c ≤ 1000000) (hm : 0 ≤ most) (hm2 : most ≤ 100) : W (m__law_plain [dl row t, .d (.int 6), .d (.int most)] [ck c]) fun p => ∃ n ms c', WebOk most n ms ∧ c ≤ c' ∧ c' ≤ c + 300 ∧ p = (.d (webD n ms), [ck c']) := by
  unfold m__law_plain
  rw [fnD_eq 3 7 b__law_plain _ _ rfl]
  unfold b__law_plain
  simp_arith
  refine W.step (take_spec (by omega) (by omega) (by omega)) ?_
  rintro _ ⟨n, n0, n1, rfl⟩
  simp_arith
  refine W.step (take_spec (by omega) (by omega) (by omega)) ?_
  rintro _ ⟨w, w0, w1, rfl⟩
  simp_arith
  refine W.rg ⟨by omega, by omega⟩ ?_
  simp_arith
  refine W.loop (fun i ρ m => ∃ x6 x7 ds c', ρ = [some (dl row t), some (.d (.int 6)), some (.d (.int most)), some (.d (.int n)), some (.d (.int (1 + w))), some (.own 1), x6, x7, none, none] ∧ m = [ck c', .lst (ds.map pairD)] ∧ (ds.length : Int) ≤ most ∧ Good n ds ∧ c ≤ c' ∧ c' ≤ c + 2 + 10 * i) ?_ ?_ ?_
  · exact ⟨_, _, [], _, rfl, rfl, by simp; omega, good_nil _, by omega, by omega⟩
  · rintro i y hy ρ m ⟨x6, x7, ds, c', rfl, rfl, hl, hg, hc0, hc1⟩
    obtain ⟨hi, rfl⟩ := getElem?_range hy
    refine ⟨_, rfl, ?_⟩
    simp_arith
    refine W.eq (iRange2_eq (a := (y : Int) + 1) (n := n) (e := .d (.int ((y : Int) + 1))) (e' := .d (.int n)) rfl rfl rfl rfl ⟨by omega, by omega, by omega, by omega⟩) ?_
    simp_arith
    refine W.bnd (W.loop (fun j ρ m => ∃ x7 ds c2, ρ = [some (dl row t), some (.d (.int 6)), some (.d (.int most)), some (.d (.int n)), some (.d (.int (1 + w))), some (.own 1), some (.d (.int y)), x7, none, none] ∧ m = [ck c2, .lst (ds.map pairD)] ∧ (ds.length : Int) ≤ most ∧ Good n ds ∧ c' ≤ c2 ∧ c2 ≤ c' + j) ?_ ?_ ?_)
    · exact ⟨_, ds, _, rfl, rfl, hl, hg, by omega, by omega⟩
    · rintro j z hz ρ m ⟨x7, ds, c2, rfl, rfl, hl, hg, hd0, hd1⟩
      obtain ⟨hj, rfl⟩ := getElem?_range hz
      refine ⟨_, rfl, ?_⟩
      simp_arith
      refine W.step (take_spec (by omega) (by omega) (by omega)) ?_
      rintro _ ⟨a, a0, a1, rfl⟩
      simp_arith
      by_cases e1 : a < 1 + w
      · rw [decide_eq_true e1]
        simp_arith
        by_cases e2 : (ds.length : Int) < most
        · rw [decide_eq_true e2]
          simp_arith
          rw [if_pos (by unfold big; omega)]
          simp_arith
          exact ⟨goes_nx, _, ds ++ [((y : Int), (y : Int) + 1 + z)], _, rfl, by rw [List.map_append]; rfl, by simp; omega, hg.snoc ⟨by simp, by simp; omega, by simp; omega⟩, by omega, by omega⟩
        · rw [decide_eq_false e2]
          simp_arith
          exact ⟨goes_nx, _, ds, _, rfl, rfl, hl, hg, by omega, by omega⟩
      · rw [decide_eq_false e1]
        simp_arith
        exact ⟨goes_nx, _, ds, _, rfl, rfl, hl, hg, by omega, by omega⟩
    · rintro ρ m ⟨x7, ds, c2, rfl, rfl, hl, hg, hd0, hd1⟩
      rw [List.length_range] at *
      simp_arith
      exact ⟨goes_nx, _, _, ds, _, rfl, rfl, hl, hg, by omega, by omega⟩
  · rintro ρ m ⟨x6, x7, ds, c', rfl, rfl, hl, hg, hc0, hc1⟩
    rw [List.length_range] at *
    simp_arith
    refine W.step (take_spec (by omega) (by omega) (by omega)) ?_
    rintro _ ⟨z, z0, z1, rfl⟩
    simp_arith
    refine W.rg ⟨by omega, by omega⟩ ?_
    simp_arith
    refine W.loop (fun i ρ m => ∃ x5 x6 x7 x8 x9 ds c2 l, ρ = [some (dl row t), some (.d (.int 6)), some (.d (.int most)), some (.d (.int n)), some (.d (.int (1 + w))), some x5, x6, x7, x8, x9] ∧ m = [ck c2, .lst l] ∧ ((x5 = .own 1 ∧ l = ds.map pairD) ∨ x5 = .d (.lst (ds.map pairD))) ∧ (ds.length : Int) ≤ most ∧ Good n ds ∧ c' ≤ c2 ∧ c2 ≤ c' + 1 + i) ?_ ?_ ?_
    · exact ⟨_, _, _, _, _, ds, _, _, rfl, rfl, .inl ⟨rfl, rfl⟩, hl, hg, by omega, by omega⟩
    · rintro j z hz ρ m ⟨x5, x6, x7, x8, x9, ds, c2, l, rfl, rfl, hx, hl, hg, hd0, hd1⟩
      obtain ⟨hj, rfl⟩ := getElem?_range hz
      refine ⟨_, rfl, ?_⟩
      have fact : ∀ s : Int, 0 ≤ s → cutD (ds.map pairD) (some s) none ++ cutD (ds.map pairD) none (some s) = (ds.drop s.toNat ++ ds.take s.toNat).map pairD := fun s hs => by
        rw [cutD_from _ _ hs, cutD_to _ _ hs, List.map_append, List.map_drop, List.map_take]
      have fact2 : ∀ s : Int, 0 ≤ s → (ds.drop s.toNat ++ ds.take s.toNat).length = ds.length := fun s hs => by
        rw [List.length_append, List.length_drop, List.length_take]; omega
      have fact3 : ∀ s : Int, Good n (ds.drop s.toNat ++ ds.take s.toNat) := fun s q hq => by
        rcases List.mem_append.mp hq with hq | hq
        · exact hg q (List.mem_of_mem_drop hq)
        · exact hg q (List.mem_of_mem_take hq)
      have fact4 : ∀ s : Int, 0 ≤ s → opAdd (.lst (cutD (ds.map pairD) (some s) none)) (.lst (cutD (ds.map pairD) none (some s))) = some (.lst ((ds.drop s.toNat ++ ds.take s.toNat).map pairD)) := fun s hs => by
        rw [opAdd_ll, fact s hs]
        rw [← List.length_append, fact s hs, List.length_map, fact2 s hs]
        omega
      rcases hx with ⟨rfl, rfl⟩ | rfl
      all_goals
        simp_arith
        by_cases e1 : (1 : Int) < (ds.length : Int)
        · rw [decide_eq_true e1]
          simp_arith
          refine W.step (take_spec (by omega) (by omega) (by omega)) ?_
          rintro _ ⟨s, s0, s1, rfl⟩
          simp_arith [fact4 s s0]
          exact ⟨goes_nx, _, _, _, _, _, ds.drop s.toNat ++ ds.take s.toNat, _, _, rfl, rfl, .inr rfl, by rw [fact2 s s0]; exact hl, fact3 s, by omega, by omega⟩
        · rw [decide_eq_false e1]
          simp_arith
          first
          | exact ⟨goes_nx, _, _, _, _, _, ds, _, _, rfl, rfl, .inr rfl, hl, hg, by omega, by omega⟩
          | exact ⟨goes_nx, _, _, _, _, _, ds, _, _, rfl, rfl, .inl ⟨rfl, rfl⟩, hl, hg, by omega, by omega⟩
    · rintro ρ m ⟨x5, x6, x7, x8, x9, ds, c2, l, rfl, rfl, hx, hl, hg, hd0, hd1⟩
      rw [List.length_range] at *
      rcases hx with ⟨rfl, rfl⟩ | rfl
      all_goals
        simp_arith
        exact ⟨_, ds, _, ⟨by omega, by omega, by omega, hg⟩, by omega, by omega, rfl⟩
theorem any_spec {row : List Int} {t c most : Int} (h0 : 0 ≤ c) (h1 : c ≤ 900000) (hm : 0 ≤ most) (hm2 : most ≤ 100) : W (m__law_any [dl row t, .d (.int most)] [ck c]) fun p => ∃ n ms c', WebOk most n ms ∧ c ≤ c' ∧ c' ≤ c + 301 ∧ p = (.d (webD n ms), [ck c']) := by
  unfold m__law_any
  rw [fnD_eq 2 5 b__law_any _ _ rfl]
  unfold b__law_any
  simp_arith
  refine W.step (take_spec (by omega) (by omega) (by omega)) ?_
  rintro _ ⟨v, v0, v1, rfl⟩
  simp_arith
  by_cases e1 : v = 0
  · rw [decide_eq_true e1]
    simp_arith
    refine W.step (plain_spec (by omega) (by omega) hm hm2) ?_
    rintro _ ⟨n, ms, c', hw, hc0, hc1, rfl⟩
    simp_arith [webD]
    exact ⟨n, ms, c', hw, by omega, by omega, rfl⟩
  · rw [decide_eq_false e1]
    simp_arith
    by_cases e2 : v = 1
    · rw [decide_eq_true e2]
      simp_arith
      refine W.step (sided_spec (by omega) (by omega) hm hm2) ?_
      rintro _ ⟨n, ms, c', hw, hc0, hc1, rfl⟩
      simp_arith [webD]
      exact ⟨n, ms, c', hw, by omega, by omega, rfl⟩
    · rw [decide_eq_false e2]
      simp_arith
      refine W.step (take_spec (by omega) (by omega) (by omega)) ?_
      rintro _ ⟨w, w0, w1, rfl⟩
      simp_arith
      refine W.step (take_spec (by omega) (by omega) (by omega)) ?_
      rintro _ ⟨z, z0, z1, rfl⟩
      simp_arith
      refine W.rg ⟨by omega, by omega⟩ ?_
      simp_arith
      refine W.loop (fun i ρ m => ∃ x5 x6 ds c', ρ = [some (dl row t), some (.d (.int most)), some (.d (.int v)), some (.d (.int (2 + w))), some (.own 1), x5, x6] ∧ m = [ck c', .lst (ds.map pairD)] ∧ (ds.length : Int) ≤ i ∧ Good (2 + w) ds ∧ c ≤ c' ∧ c' ≤ c + 3 + 2 * i) ?_ ?_ ?_
      · exact ⟨_, _, [], _, rfl, rfl, by simp, good_nil _, by omega, by omega⟩
      · rintro i y hy ρ m ⟨x5, x6, ds, c', rfl, rfl, hl, hg, hc0, hc1⟩
        obtain ⟨hi, rfl⟩ := getElem?_range hy
        refine ⟨_, rfl, ?_⟩
        simp_arith
        refine W.step (take_spec (by omega) (by omega) (by omega)) ?_
        rintro _ ⟨a, a0, a1, rfl⟩
        simp_arith
        refine W.step (take_spec (by omega) (by omega) (by omega)) ?_
        rintro _ ⟨b, b0, b1, rfl⟩
        simp_arith
        rw [if_pos (by unfold big; omega)]
        simp_arith
        refine ⟨goes_nx, _, _, ds ++ [(a, a + 1 + b)], _, rfl, by rw [List.map_append]; rfl, by simp; omega, hg.snoc ⟨by omega, by simp; omega, by simp; omega⟩, by omega, by omega⟩
      · rintro ρ m ⟨x5, x6, ds, c', rfl, rfl, hl, hg, hc0, hc1⟩
        rw [List.length_range] at *
        simp_arith
        exact ⟨_, ds, _, ⟨by omega, by omega, by omega, hg⟩, hc0, by omega, rfl⟩
theorem web_spec {row : List Int} {t c most : Int} (h0 : 0 ≤ c) (h1 : c ≤ 800000) (hm : 3 ≤ most) (hm2 : most ≤ 100) : W (m__law_web [dl row t, .d (.int most)] [ck c]) fun p => ∃ n ms c', WebOk most n ms ∧ c ≤ c' ∧ c' ≤ c + 302 ∧ p = (.d (webD n ms), [ck c']) := by
  unfold m__law_web
  rw [fnD_eq 2 0 b__law_web _ _ rfl]
  unfold b__law_web
  simp_arith
  refine W.step (take_spec (by omega) (by omega) (by omega)) ?_
  rintro _ ⟨v, v0, v1, rfl⟩
  simp_arith
  by_cases e1 : v = 0
  · rw [decide_eq_true e1]
    simp_arith
    refine W.step (few_spec (by omega) (by omega) hm) ?_
    rintro _ ⟨n, ms, c', hw, hc0, hc1, rfl⟩
    simp_arith [webD]
    exact ⟨n, ms, c', hw, by omega, by omega, rfl⟩
  · rw [decide_eq_false e1]
    simp_arith
    refine W.step (any_spec (by omega) (by omega) (by omega) hm2) ?_
    rintro _ ⟨n, ms, c', hw, hc0, hc1, rfl⟩
    simp_arith [webD]
    exact ⟨n, ms, c', hw, by omega, by omega, rfl⟩
theorem pick_spec {row : List Int} {t c : Int} {xs : List Int} {r : Store} (h0 : 0 ≤ c) (h1 : c ≤ 1000000) (hx : xs ≠ []) (hl : xs.length ≤ 1000) : W (m__law_pick [dl row t, .d (.lst (xs.map .int))] (ck c :: r)) fun p => ∃ x, x ∈ xs ∧ p = (.d (.int x), ck (c + 1) :: r) := by
  unfold m__law_pick
  rw [fnD_eq 2 0 b__law_pick _ _ rfl]
  unfold b__law_pick
  simp_arith
  have := List.length_pos_iff.mpr hx
  refine W.step (take_spec (by omega) (by omega) (by omega)) ?_
  rintro _ ⟨v, v0, v1, rfl⟩
  simp_arith
  rw [opIx_li xs v v0 v1]
  simp_arith
  refine ⟨_, ?_, rfl⟩
  rw [List.getD_eq_getElem?_getD, List.getElem?_eq_getElem (by omega), Option.getD_some]
  exact List.getElem_mem _
end Lw
namespace Lw
open PySem PySem.Spec L2 PL
set_option autoImplicit false
local macro_rules | `(tactic| simp_arith [$ls,*]) => `(tactic| try simp (maxSteps := 2000000) only [eV, eC, eBin, g2, eUn, eBi, eCall, aNil, aCons, sSeq, sRet, sIf, sSet, sAsg, sExp, tgName, tgTup_pair, sNil, eIf, tAndM, tOrM, tNotM, eAnd, eOr, eNot, tTrue, sFor, iRange1_bind, iSeq, eSl, oNone, oSome, opNeg_i, opSl_l, opSl_t, tOf_eq, look_d, frzE_d, frzAll, eLst, eTup, eLstO, eApp, sPutL, cellL, look, frzE, gIx_d, gIx_own, gIx_deal, dealAt, intOf, opAdd_i, opI_i, opEqA_i, opNeA_i, opEqA_b, opLen_l, opLen_t, opLen_s, opLen_d, itemsOf_l, itemsOf_t, opTuple_l, opTuple_t, opList_l, opList_t, opIx_web0, opIx_web1, opIx_ck, opIn_pair, opNotIn_pair, wipeE, fin, ck, 
  Option.bind_some, Option.bind_none, Option.bind_assoc, W_some, List.map_cons, List.map_nil, List.replicate, List.cons_append, List.nil_append, List.getElem?_cons_zero, List.getElem?_cons_succ, List.set_cons_zero, List.set_cons_succ, List.length_cons, List.length_nil, List.take_succ_cons, List.take_zero, List.take_nil, List.take_length, List.length_append, Nat.zero_add, Nat.lt_irrefl, Option.map_some, List.length_map, Int.toNat_natCast, if_true, if_false, Bool.false_eq_true, Bool.not_true, Bool.not_false, decide_true, decide_false, reduceCtorEq, lb0, lb1, lb2, lb3, lb4, lb5, lb6, lb7, lb8, $ls,*])
local macro_rules | `(tactic| simp_arith) => `(tactic| simp_arith [Option.bind_some])
theorem filter_range {α β : Type} (xs : List α) (d : α) (c : α → Bool) (f : α → β) : ((List.range xs.length).filter fun i => c (xs.getD i d)).map (fun i => f (xs.getD i d)) = (xs.filter c).map f := by
  have e : xs = (List.range xs.length).map fun i => xs.getD i d := by
    refine List.ext_getElem? fun i => ?_
    rw [List.getElem?_map]
    by_cases h : i < xs.length
    · rw [List.getElem?_range h, List.getElem?_eq_getElem h]
      simp [h]
    · rw [List.getElem?_eq_none (by omega), List.getElem?_eq_none (by rw [List.length_range]; omega)]
      rfl
  conv => rhs; rw [e, List.filter_map, List.map_map]
  rfl
theorem meets_count (ms : Ms) (p : Int) : (meets ms p).length = (ms.filter fun q => decide (p = q.1 ∨ p = q.2)).length := by
  have := congrArg List.length (filter_range ms (0, 0) (fun q => decide (p = q.1 ∨ p = q.2)) id)
  rw [List.length_map, List.length_map] at this
  unfold meets
  rw [List.length_map, ← this]
  rfl
theorem foldl_max0 (xs : List Int) (h : ∀ x ∈ xs, 0 ≤ x) : maxZ (0 :: xs) = if xs = [] then 0 else maxZ xs := by
  cases xs with
  | nil => rfl
  | cons x xs =>
    rw [if_neg (by simp)]
    unfold maxZ maxI
    show (((x :: xs).foldl _ 0)) = _
    rw [List.foldl_cons]
    have h0 := h x List.mem_cons_self
    by_cases hx : (0 : Int) < x
    · rw [if_pos hx]; rfl
    · rw [if_neg hx, show x = 0 by omega]; rfl
theorem ms_items {n : Int} {ms : Ms} {i : Nat} {ρ : Rho} {m : Store} (h : ρ[i]? = some (some (.d (webD n ms)))) : iSeq (eBin gIx (eV i) (eC (.int 1))) ρ m = some (ms.map pairD, m) := by
  refine iSeq_eq (d := .tup (ms.map pairD)) ?_ rfl
  unfold eBin eV eC
  rw [h]
  rfl
theorem law_load_eq (n : Int) (ms : Ms) (m : Store) (hl : ms.length ≤ 1000) (h0 : 0 ≤ n) (h1 : n ≤ 1000) : m__law_load [.d (webD n ms)] m = some (.d (.int (gload n ms)), m) := by
  unfold m__law_load
  rw [fnD_eq 1 3 b__law_load _ m rfl]
  unfold b__law_load
  simp_arith
  rw [eLc_all (ys := List.range n.toNat) (k := fun (i : Nat) => D.int (i : Int)) (fun (p : Nat) => .int ((meets ms (p : Int)).length : Int)) (rng (n := n.toNat) (by simp_arith; rw [Int.toNat_of_nonneg h0]) (by omega)) (by simp; omega)]
  · have e : ((List.range n.toNat).map fun (p : Nat) => D.int ((meets ms (p : Int)).length : Int)) = (loads n ms).map .int := by
      simp [loads, List.map_map]
    rw [e]
    simp_arith
    have hg : gload n ms = if loads n ms = [] then 0 else maxZ (loads n ms) := foldl_max0 _ fun x hx => by
      obtain ⟨i, _, rfl⟩ := List.mem_map.mp hx
      omega
    rw [hg]
    by_cases e0 : loads n ms = []
    · rw [if_pos e0, e0, decide_eq_false (by simp)]
      simp_arith
    · have := List.length_pos_iff.mpr e0
      rw [if_neg e0, decide_eq_true (by omega)]
      simp_arith [opMax_eq _ e0]
  · intro p hp
    refine ⟨_, rfl, ?_⟩
    simp_arith
    rw [eLc_map (ys := ms) (k := pairD) (fun q => decide ((p : Int) = q.1 ∨ (p : Int) = q.2)) (fun _ => .int 1) (ms_items rfl) (by omega)]
    · simp_arith [meets_count]
    · intro q hq
      exact ⟨_, rfl, by simp_arith, fun _ => by simp_arith⟩
theorem law_counts_eq (plan : List Int) (k : Int) {e : E} (he : e = .d (planD plan) ∨ e = .d (.lst (plan.map .int))) (m : Store) (hp : plan.length ≤ 1000) (h0 : 0 ≤ k) (h1 : k ≤ 1000) : m__law_counts [e, .d (.int k)] m = some (.d (.lst ((counts plan k).map .int)), m) := by
  unfold m__law_counts
  rw [fnD_eq 2 2 b__law_counts _ m rfl]
  unfold b__law_counts
  simp_arith
  rw [eLc_all (ys := List.range k.toNat) (k := fun (i : Nat) => D.int (i : Int)) (fun (c : Nat) => .int ((plan.filter fun d => decide (d = (c : Int))).length : Int)) (rng (n := k.toNat) (by simp_arith; rw [Int.toNat_of_nonneg h0]) (by omega)) (by simp; omega)]
  · simp_arith [counts, List.map_map]
    rfl
  · intro c hc
    refine ⟨_, rfl, ?_⟩
    simp_arith
    rw [eLc_map (ys := plan) (k := D.int) (fun d => decide (d = (c : Int))) (fun _ => .int 1) (by rcases he with rfl | rfl; exact tup_items rfl; exact lst_items rfl) (by omega)]
    · simp_arith
    · intro d hd
      exact ⟨_, rfl, by simp_arith, fun _ => by simp_arith⟩
theorem opIx_pair0 (p : Int × Int) : opIx (pairD p) (.int 0) = some (.int p.1) := rfl
theorem opIx_pair1 (p : Int × Int) : opIx (pairD p) (.int 1) = some (.int p.2) := rfl
theorem law_clash_eq (n : Int) (ms : Ms) (i j : Int) (m : Store) (hi0 : 0 ≤ i) (hi : i < ms.length) (hj0 : 0 ≤ j) (hj : j < ms.length) : m__law_clash [.d (webD n ms), .d (.int i), .d (.int j)] m = some (.d (.bl (clashB (pr ms i.toNat) (pr ms j.toNat))), m) := by
  unfold m__law_clash
  rw [fnD_eq 3 0 b__law_clash _ m rfl]
  unfold b__law_clash
  simp_arith [opIx_ms ms i hi0 hi, opIx_ms ms j hj0 hj, opIx_pair0, opIx_pair1, ite_or]
  rfl
theorem law_is_right_eq (n : Int) (ms : Ms) (plan : List Int) (k : Int) (m : Store) (hl : ms.length ≤ 1000) (hp : plan.length ≤ 1000) : m__law_is_right [.d (webD n ms), .d (planD plan), .d (.int k)] m = some (.d (.bl (tr (Right ms plan k))), m) := by
  unfold m__law_is_right
  rw [fnD_eq 3 3 b__law_is_right _ m rfl]
  unfold b__law_is_right
  simp_arith [opLen_p]
  by_cases e1 : (plan.length : Int) = ms.length
  · rw [decide_eq_true e1]
    simp_arith [Bool.not_true]
    have e1 : plan.length = ms.length := by omega
    rw [eLc_map (ys := plan) (k := D.int) (fun d => !decide (0 ≤ d ∧ d < k)) (fun _ => .int 1) (tup_items rfl) (by omega)]
    · simp_arith
      by_cases e2 : ∀ d ∈ plan, 0 ≤ d ∧ d < k
      · have e3 : (plan.filter fun d => !decide (0 ≤ d ∧ d < k)).length = 0 := filter_none.mpr fun d hd => by rw [decide_eq_true (e2 d hd)]; rfl
        rw [e3]
        simp_arith
        rw [if_neg (by simp)]
        simp_arith [opLen_p]
        rw [rgK_eq (by omega), Option.bind_some]
        simp_arith
        generalize hx : forL _ _ _ _ _ = x
        refine Or.elim (forL_srch (fun i : Nat => ∃ j : Nat, j < i ∧ plan.getD i 0 = plan.getD j 0 ∧ clashB (pr ms i) (pr ms j) = true) (fun ρ => ∃ x3, ρ = [some (.d (webD n ms)), some (.d (planD plan)), some (.d (.int k)), x3, none, none]) (.d (.bl false)) hx ⟨none, rfl⟩ ?_) (fun ⟨h1, ρ2, ⟨x3, e4⟩, h2⟩ => ?_) (fun ⟨h1, ρ2, h2⟩ => ?_)
        · intro i hi ρ hρ
          obtain ⟨x3, rfl⟩ := hρ
          have hi := List.mem_range.mp hi
          refine ⟨_, rfl, ?_⟩
          simp_arith
          rw [eLc_map (ys := List.range i) (k := fun (j : Nat) => D.int (j : Int)) (fun j => decide (plan.getD i 0 = plan.getD j 0) && clashB (pr ms i) (pr ms j)) (fun _ => .int 1) (rng (by simp_arith) (by omega)) (by simp; omega)]
          · simp_arith
            by_cases c : ∃ j : Nat, j < i ∧ plan.getD i 0 = plan.getD j 0 ∧ clashB (pr ms i) (pr ms j) = true
            · refine .inl ⟨c, ?_⟩
              have : ¬ ((List.range i).filter fun j => decide (plan.getD i 0 = plan.getD j 0) && clashB (pr ms i) (pr ms j)).length = 0 := fun z => by
                obtain ⟨j, hj, c1, c2⟩ := c
                have := filter_none.mp z j (List.mem_range.mpr hj)
                rw [decide_eq_true c1, c2] at this
                cases this
              rw [decide_eq_true (by omega)]
              exact ⟨_, rfl⟩
            · refine .inr ⟨c, ?_⟩
              have : ((List.range i).filter fun j => decide (plan.getD i 0 = plan.getD j 0) && clashB (pr ms i) (pr ms j)).length = 0 := filter_none.mpr fun j hj => by
                cases q : decide (plan.getD i 0 = plan.getD j 0) && clashB (pr ms i) (pr ms j) with
                | false => rfl
                | true =>
                  rw [Bool.and_eq_true] at q
                  exact absurd ⟨j, List.mem_range.mp hj, of_decide_eq_true q.1, q.2⟩ c
              rw [this, decide_eq_false (by omega)]
              exact ⟨_, ⟨_, rfl⟩, rfl⟩
          · intro j hj
            have hj := List.mem_range.mp hj
            refine ⟨_, rfl, ?_, fun _ => by simp_arith⟩
            simp_arith [opIx_p plan i (by omega) (by omega), opIx_p plan j (by omega) (by omega)]
            by_cases c1 : plan.getD i 0 = plan.getD j 0
            · rw [decide_eq_true c1]
              simp_arith [law_clash_eq n ms i j m (by omega) (by omega) (by omega) (by omega), Bool.true_and]
            · rw [decide_eq_false c1]
              simp_arith [Bool.false_and]
        · rw [h2, e4]
          simp_arith
          rw [tr_true]
          exact ⟨e1, e2, fun i j hj hi hc => h1 i (List.mem_range.mpr hi) ⟨j, hj, hc.1, hc.2⟩⟩
        · rw [h2]
          simp_arith
          rw [tr_false]
          intro hr
          obtain ⟨i, hi, j, hj, hc⟩ := h1
          exact hr.2.2 i j hj (List.mem_range.mp hi) hc
      · have e3 : ¬ (plan.filter fun d => !decide (0 ≤ d ∧ d < k)).length = 0 := fun z => e2 fun d hd => by
          have := filter_none.mp z d hd
          simpa using this
        rw [decide_eq_true (by omega)]
        simp_arith
        rw [tr_false]
        exact fun hr => e2 hr.2.1
    · intro d hd
      refine ⟨_, rfl, ?_, fun _ => by simp_arith⟩
      simp_arith [chain_le_lt (fa := eC (.int 0)) (fb := eV 4) (fc := eV 2) (m := m) (a := 0) (b := d) (c := k) (ρ := [some (.d (webD n ms)), some (.d (planD plan)), some (.d (.int k)), none, some (.d (.int d)), none]) rfl rfl rfl]
  · rw [decide_eq_false e1]
    simp_arith [Bool.not_false]
    rw [tr_false]
    exact fun hr => e1 (by rw [hr.1])
theorem law_bool_eq (a b : Bool) (m : Store) : m__law_bool [.d (.bl a), .d (.bl b)] m = some (.d (.bl (decide (a = b))), m) := by
  unfold m__law_bool
  rw [fnD_eq 2 0 b__law_bool _ m rfl]
  unfold b__law_bool
  have e : isKind "bool" "bool" = true := by decide
  simp_arith [eIsi, kindD, e]
theorem law_same_int (k : Nat) (a : Int) (m : Store) : m__law_same (k + 1) [.d (.int a), .d (.int a)] m = some (.d (.bl true), m) := by
  unfold m__law_same
  rw [fnD_eq 2 1 _ _ m rfl]
  unfold b__law_same
  have e1 : isKind "tuple" "int" = false := by decide
  have e2 : isKind "list" "int" = false := by decide
  have e3 : isKind "bool" "int" = false := by decide
  have e4 : isKind "int" "int" = true := by decide
  simp_arith [eIsi, kindD, e1, e2, e3, e4]
theorem law_same_ints (k : Nat) (xs : List Int) (m : Store) (hl : xs.length ≤ 1000) : m__law_same (k + 2) [.d (.lst (xs.map .int)), .d (.lst (xs.map .int))] m = some (.d (.bl true), m) := by
  unfold m__law_same
  rw [fnD_eq 2 1 _ _ m rfl]
  unfold b__law_same
  have e1 : isKind "tuple" "list" = false := by decide
  have e2 : isKind "list" "list" = true := by decide
  simp_arith [eIsi, kindD, e1, e2]
  rw [rgK_eq (by omega), Option.bind_some]
  simp_arith
  generalize hx : forL _ _ _ _ _ = x
  refine Or.elim (forL_srch (fun i : Nat => False) (fun ρ => ∃ x2, ρ = [some (.d (.lst (xs.map .int))), some (.d (.lst (xs.map .int))), x2]) (.d (.bl false)) hx ⟨none, rfl⟩ ?_) (fun ⟨h1, ρ2, ⟨x2, e4⟩, h2⟩ => ?_) (fun ⟨h1, ρ2, h2⟩ => ?_)
  · intro i hi ρ hρ
    obtain ⟨x2, rfl⟩ := hρ
    have hi := List.mem_range.mp hi
    refine ⟨_, rfl, .inr ⟨id, _, ⟨some (.d (.int (i : Int))), rfl⟩, ?_⟩⟩
    simp_arith [opIx_li xs i (by omega) (by omega), law_same_int]
  · rw [h2, e4]
    simp_arith
  · obtain ⟨i, _, h⟩ := h1
    exact h.elim
theorem filter_count (xs : List Int) (c : Int) : (xs.filter fun d => decide (d = c)).length = xs.count c := by
  rw [List.count_eq_countP, List.countP_eq_length_filter]
  congr 1
theorem counts_mine (ms : Ms) (weeks : List Int) (k p : Int) : counts (mine ms weeks p) k = wcounts ms weeks k p := by
  unfold counts wcounts
  exact List.map_congr_left fun c _ => by rw [filter_count]
theorem law_level_eq (n : Int) (ms : Ms) (weeks : List Int) (k : Int) (m : Store) (hl : ms.length ≤ 1000) (hp : weeks.length ≤ 1000) (h0 : 0 ≤ n) (h1 : n ≤ 1000) (hk : 1 ≤ k) (hk1 : k ≤ 1000) : m__law_level [.d (webD n ms), .d (planD weeks), .d (.int k)] m = some (.d (.bl (tr (Level n ms weeks k))), m) := by
  unfold m__law_level
  rw [fnD_eq 3 5 b__law_level _ m rfl]
  unfold b__law_level
  simp_arith [opLen_p]
  by_cases e1 : (weeks.length : Int) = ms.length
  · rw [decide_eq_true e1]
    simp_arith [Bool.not_true]
    have e1 : weeks.length = ms.length := by omega
    rw [eLc_map (ys := weeks) (k := D.int) (fun d => !decide (0 ≤ d ∧ d < k)) (fun _ => .int 1) (tup_items rfl) (by omega)]
    · simp_arith
      by_cases e2 : ∀ d ∈ weeks, 0 ≤ d ∧ d < k
      · have e3 : (weeks.filter fun d => !decide (0 ≤ d ∧ d < k)).length = 0 := filter_none.mpr fun d hd => by rw [decide_eq_true (e2 d hd)]; rfl
        rw [e3]
        simp_arith
        rw [if_neg (by simp)]
        simp_arith
        rw [rgK_eq (by omega), Option.bind_some]
        simp_arith
        generalize hx : forL _ _ _ _ _ = x
        refine Or.elim (forL_srch (fun p : Nat => ¬ maxZ (wcounts ms weeks k p) - minZ (wcounts ms weeks k p) ≤ 1) (fun ρ => ∃ x3 x4 x5, ρ = [some (.d (webD n ms)), some (.d (planD weeks)), some (.d (.int k)), x3, x4, x5, none, none]) (.d (.bl false)) hx ⟨none, none, none, rfl⟩ ?_) (fun ⟨h1, ρ2, ⟨x3, x4, x5, e4⟩, h2⟩ => ?_) (fun ⟨h1, ρ2, h2⟩ => ?_)
        · intro p hpp ρ hρ
          obtain ⟨x3, x4, x5, rfl⟩ := hρ
          refine ⟨_, rfl, ?_⟩
          simp_arith
          rw [eLc_map (ys := List.range weeks.length) (k := fun (j : Nat) => D.int (j : Int)) (fun i => decide ((p : Int) = (pr ms i).1 ∨ (p : Int) = (pr ms i).2)) (fun i => .int (weeks.getD i 0)) (rng (by simp_arith [opLen_p]) (by omega)) (by simp; omega)]
          · have e : (List.map (fun i => D.int (weeks.getD i 0)) ((List.range weeks.length).filter fun i => decide ((p : Int) = (pr ms i).1 ∨ (p : Int) = (pr ms i).2))) = (mine ms weeks p).map .int := by
              unfold mine meets
              rw [List.map_map, List.map_map, e1]
              rfl
            rw [e]
            have := mine_len ms weeks p
            simp_arith [law_counts_eq (mine ms weeks p) k (.inr rfl) m (by omega) (by omega) (by omega), counts_mine, opMax_eq _ (wcounts_ne hk), opMin_eq _ (wcounts_ne hk)]
            by_cases c : maxZ (wcounts ms weeks k p) - minZ (wcounts ms weeks k p) ≤ 1
            · rw [decide_eq_false (by omega)]
              exact .inr ⟨fun z => z c, _, ⟨_, _, _, rfl⟩, rfl⟩
            · rw [decide_eq_true (by omega)]
              exact .inl ⟨c, _, rfl⟩
          · intro i hi
            have hi := List.mem_range.mp hi
            refine ⟨_, rfl, ?_, fun _ => ?_⟩
            · simp_arith [opIx_ms ms i (by omega) (by omega)]
            · simp_arith [opIx_p weeks i (by omega) (by omega)]
        · rw [h2, e4]
          simp_arith
          rw [tr_true ⟨e1, e2, fun p hp => Classical.byContradiction (h1 p (List.mem_range.mpr hp))⟩]
        · rw [h2]
          simp_arith
          obtain ⟨p, hp, hc⟩ := h1
          rw [tr_false fun z => hc (z.2.2 p (List.mem_range.mp hp))]
      · have e3 : ¬ (weeks.filter fun d => !decide (0 ≤ d ∧ d < k)).length = 0 := fun z => e2 fun d hd => by
          have := filter_none.mp z d hd
          simpa using this
        rw [decide_eq_true (by omega)]
        simp_arith
        rw [tr_false]
        exact fun hr => e2 hr.2.1
    · intro d hd
      refine ⟨_, rfl, ?_, fun _ => by simp_arith⟩
      simp_arith [chain_le_lt (fa := eC (.int 0)) (fb := eV 7) (fc := eV 2) (m := m) (a := 0) (b := d) (c := k) (ρ := [some (.d (webD n ms)), some (.d (planD weeks)), some (.d (.int k)), none, none, none, none, some (.d (.int d))]) rfl rfl rfl]
  · rw [decide_eq_false e1]
    simp_arith [Bool.not_false]
    rw [tr_false]
    exact fun hr => e1 (by rw [hr.1])
end Lw
namespace Lw
open PySem PySem.Spec L2 PL
set_option autoImplicit false
local macro_rules | `(tactic| simp_arith [$ls,*]) => `(tactic| try simp (maxSteps := 2000000) only [eV, eC, eBin, g2, eUn, eBi, eCall, aNil, aCons, sSeq, sRet, sIf, sSet, sAsg, sExp, tgName, tgTup_pair, sNil, eIf, tAndM, tOrM, tNotM, eAnd, eOr, eNot, tTrue, sFor, iRange1_bind, iSeq, eSl, oNone, oSome, opNeg_i, opSl_l, opSl_t, tOf_eq, look_d, frzE_d, frzAll, eLst, eTup, eLstO, eApp, sPutL, cellL, look, frzE, gIx_d, gIx_own, gIx_deal, dealAt, intOf, opAdd_i, opI_i, opEqA_i, opNeA_i, opEqA_b, opLen_l, opLen_t, opLen_s, opLen_d, itemsOf_l, itemsOf_t, opTuple_l, opTuple_t, opList_l, opList_t, opIx_web0, opIx_web1, opIx_ck, opIn_pair, opNotIn_pair, wipeE, fin, ck, 
  Option.bind_some, Option.bind_none, Option.bind_assoc, W_some, List.map_cons, List.map_nil, List.replicate, List.cons_append, List.nil_append, List.getElem?_cons_zero, List.getElem?_cons_succ, List.set_cons_zero, List.set_cons_succ, List.length_cons, List.length_nil, List.take_succ_cons, List.take_zero, List.take_nil, List.take_length, List.length_append, Nat.zero_add, Nat.lt_irrefl, Option.map_some, List.length_map, Int.toNat_natCast, if_true, if_false, Bool.false_eq_true, Bool.not_true, Bool.not_false, decide_true, decide_false, reduceCtorEq, lb0, lb1, lb2, lb3, lb4, lb5, lb6, lb7, lb8, $ls,*])
local macro_rules | `(tactic| simp_arith) => `(tactic| simp_arith [Option.bind_some])
theorem opSl_p (w : List Int) (a b : Option Int) : opSl (planD w) a b = some (planD (cutD w a b)) := by
  unfold planD
  rw [← cutD_map]
  rfl
theorem one_p (x : Int) : D.tup [.int x] = planD [x] := rfl
theorem opRev_p (w : List Int) : opRev (planD w) = some (planD w.reverse) := by
  unfold planD
  rw [List.map_reverse]
  rfl
theorem opAdd_pp (a b : List Int) (h : a.length + b.length ≤ 1000000) : opAdd (planD a) (planD b) = some (planD (a ++ b)) := by
  unfold planD
  rw [opAdd_tt _ _ (by rw [List.length_map, List.length_map]; exact h), List.map_append]
theorem opMulA_rep (xs : List D) (k : Int) (h : -(2 ^ 63) ≤ k ∧ k < 2 ^ 63 ∧ xs.length * k.toNat ≤ big) : opMulA (.lst xs) (.int k) = some (.lst (List.replicate k.toNat xs).flatten) := if_pos (okP_true h)
theorem opMul_zeros (n : Nat) (h : n ≤ 1000000) : opMulA (.lst [.int 0]) (.int n) = some (.lst ((List.replicate n (0 : Int)).map .int)) := by
  rw [opMulA_rep [.int 0] n ⟨by omega, by omega, by rw [List.length_singleton, Int.toNat_natCast]; unfold big; omega⟩, Int.toNat_natCast]
  congr 2
  induction n with
  | zero => rfl
  | succ n ih =>
    rw [List.replicate_succ, List.flatten_cons, ih (by omega)]
    rfl
theorem opTuple_li (xs : List Int) : opTuple (.lst (xs.map .int)) = some (planD xs) := rfl
theorem cutD_len {α : Type} (xs : List α) (a b : Option Int) : (cutD xs a b).length ≤ xs.length := cutD_le xs a b
theorem put_len (w : List Int) (v x : Int) (h0 : 0 ≤ v) : (cutD w none (some v) ++ [x] ++ cutD w (some (v + 1)) none).length ≤ w.length + 1 := by
  rw [cutD_to _ _ h0, cutD_from _ _ (by omega)]
  simp
  omega
theorem changed_spec {row : List Int} {t c n : Int} {ms : Ms} {plan : List Int} {k : Int} (h0 : 0 ≤ c) (h1 : c ≤ 900000) (hl : ms.length ≤ 100) (hp : plan.length = ms.length) (hk : 1 ≤ k) : W (m__law_changed [dl row t, .d (webD n ms), .d (planD plan), .d (.int k)] [ck c]) fun p => ∃ (ways : List (List Int)) (c' : Int), (∀ w ∈ ways, w.length ≤ plan.length + 1) ∧ ways.length ≤ 200 ∧ c ≤ c' ∧ c' ≤ c + 2 ∧ p = (.d (.lst (ways.map planD)), [ck c']) := by
  unfold m__law_changed
  rw [fnD_eq 4 4 b__law_changed _ _ rfl]
  unfold b__law_changed
  simp_arith [opSl_p, opRev_p, one_p, opLen_p, opAdd_pp plan [0] (by simp; omega), opMul_zeros plan.length (by omega), opTuple_li]
  by_cases e0 : (0 : Int) < plan.length
  · rw [decide_eq_true e0]
    simp_arith [opLen_p]
    refine W.step (take_spec e0 (by omega) (by omega)) ?_
    rintro _ ⟨v, v0, v1, rfl⟩
    simp_arith
    refine W.step (take_spec (by omega) (by omega) (by omega)) ?_
    rintro _ ⟨x, x0, x1, rfl⟩
    simp_arith [opIx_p plan v v0 v1]
    rw [if_pos (by omega)]
    simp_arith
    have hput : ∀ (x : Int), opAdd (planD (cutD plan none (some v))) (planD [x]) = some (planD (cutD plan none (some v) ++ [x])) := fun x => opAdd_pp _ _ (by have := cutD_len plan none (some v); simp; omega)
    have hput2 : ∀ (x : Int), opAdd (planD (cutD plan none (some v) ++ [x])) (planD (cutD plan (some (v + 1)) none)) = some (planD (cutD plan none (some v) ++ [x] ++ cutD plan (some (v + 1)) none)) := fun x => opAdd_pp _ _ (by have := cutD_len plan none (some v); have := cutD_len plan (some (v + 1)) none; simp; omega)
    refine W.loopE D.int [-1, k, k - 1, x, (plan.getD v.toNat 0 + 1) % k] rfl (fun i ρ m => ∃ x6, ∃ ways : List (List Int), ρ = [some (dl row t), some (.d (webD n ms)), some (.d (planD plan)), some (.d (.int k)), some (.own 1), some (.d (.int v)), x6, none] ∧ m = [ck (c + 1 + 1), .lst (ways.map planD)] ∧ (∀ w ∈ ways, w.length ≤ plan.length + 1) ∧ ways.length = 5 + i) ?_ ?_ ?_
    · refine ⟨_, [plan, cutD plan (some 1) none, plan ++ [0], plan.reverse, List.replicate plan.length 0], rfl, rfl, ?_, rfl⟩
      intro w hw
      have := cutD_len plan (some 1) none
      simp only [List.mem_cons, List.not_mem_nil, or_false] at hw
      rcases hw with rfl | rfl | rfl | rfl | rfl <;> simp <;> omega
    · rintro i y hy ρ m ⟨x6, ways, rfl, rfl, hw, hwl⟩
      have hi := (List.getElem?_eq_some_iff.mp hy).1
      simp only [List.length_cons, List.length_nil] at hi
      refine ⟨_, rfl, ?_⟩
      simp_arith [opSl_p, one_p, hput, hput2]
      rw [if_pos (by unfold big; omega)]
      simp_arith
      refine ⟨goes_nx, _, ways ++ [cutD plan none (some v) ++ [y] ++ cutD plan (some (v + 1)) none], rfl, by rw [List.map_append]; rfl, fun w hw2 => ?_, by simp; omega⟩
      rcases List.mem_append.mp hw2 with hw2 | hw2
      · exact hw w hw2
      · rw [List.mem_singleton.mp hw2]; exact put_len plan v y v0
    · rintro ρ m ⟨x6, ways, rfl, rfl, hw, hwl⟩
      simp_arith [opLen_p]
      simp only [List.length_cons, List.length_nil] at hwl
      refine W.rg ⟨by omega, by omega⟩ ?_
      simp_arith
      refine W.loop (fun i ρ m => ∃ x6 x7, ∃ ways : List (List Int), ρ = [some (dl row t), some (.d (webD n ms)), some (.d (planD plan)), some (.d (.int k)), some (.own 1), some (.d (.int v)), x6, x7] ∧ m = [ck (c + 1 + 1), .lst (ways.map planD)] ∧ (∀ w ∈ ways, w.length ≤ plan.length + 1) ∧ ways.length ≤ 10 + i) ?_ ?_ ?_
      · exact ⟨_, _, ways, rfl, rfl, hw, by omega⟩
      · rintro i y hy ρ m ⟨x6, x7, ways, rfl, rfl, hw, hwl⟩
        obtain ⟨hi, rfl⟩ := getElem?_range hy
        refine ⟨_, rfl, ?_⟩
        simp_arith
        by_cases e1 : (y : Int) = v
        · rw [decide_eq_true e1]
          simp_arith
          exact ⟨goes_nx, _, _, ways, rfl, rfl, hw, by omega⟩
        · rw [decide_eq_false e1]
          simp_arith [law_clash_eq n ms v y [ck (c + 1 + 1), O.lst (ways.map planD)] v0 (by omega) (by omega) (by omega)]
          cases clashB (pr ms v.toNat) (pr ms y) with
          | false =>
            simp_arith
            exact ⟨goes_nx, _, _, ways, rfl, rfl, hw, by omega⟩
          | true =>
            simp_arith [opSl_p, one_p, hput, hput2, opIx_p plan y (by omega) (by omega)]
            rw [if_pos (by unfold big; omega)]
            simp_arith
            refine ⟨goes_nx, _, _, ways ++ [cutD plan none (some v) ++ [plan.getD y 0] ++ cutD plan (some (v + 1)) none], rfl, by rw [List.map_append]; rfl, fun w hw2 => ?_, by simp; omega⟩
            rcases List.mem_append.mp hw2 with hw2 | hw2
            · exact hw w hw2
            · rw [List.mem_singleton.mp hw2]; exact put_len plan v _ v0
      · rintro ρ m ⟨x6, x7, ways, rfl, rfl, hw, hwl⟩
        rw [List.length_range] at hwl
        simp_arith
        exact ⟨ways, _, hw, by omega, by omega, by omega, rfl⟩
  · rw [decide_eq_false e0]
    simp_arith
    refine ⟨[plan, cutD plan (some 1) none, plan ++ [0], plan.reverse, List.replicate plan.length 0], c, ?_, by simp, by omega, by omega, rfl⟩
    intro w hw
    have := cutD_len plan (some 1) none
    simp only [List.mem_cons, List.not_mem_nil, or_false] at hw
    rcases hw with rfl | rfl | rfl | rfl | rfl <;> simp <;> omega
/-! ### law_laid -/
theorem countP_le_of_inj {l : List Nat} {n : Nat} : True := trivial
end Lw
namespace Lw
open PySem PySem.Spec L2 PL
set_option autoImplicit false
local macro_rules | `(tactic| simp_arith [$ls,*]) => `(tactic| try simp (maxSteps := 2000000) only [eV, eC, eBin, g2, eUn, eBi, eCall, aNil, aCons, sSeq, sRet, sIf, sSet, sAsg, sExp, tgName, tgTup_pair, sNil, eIf, tAndM, tOrM, tNotM, eAnd, eOr, eNot, tTrue, sFor, iRange1_bind, iSeq, eSl, oNone, oSome, opNeg_i, opSl_l, opSl_t, tOf_eq, look_d, frzE_d, frzAll, eLst, eTup, eLstO, eApp, sPutL, cellL, look, frzE, gIx_d, gIx_own, gIx_deal, dealAt, intOf, opAdd_i, opI_i, opEqA_i, opNeA_i, opEqA_b, opLen_l, opLen_t, opLen_s, opLen_d, itemsOf_l, itemsOf_t, opTuple_l, opTuple_t, opList_l, opList_t, opIx_web0, opIx_web1, opIx_ck, opIn_pair, opNotIn_pair, wipeE, fin, ck, 
  Option.bind_some, Option.bind_none, Option.bind_assoc, W_some, List.map_cons, List.map_nil, List.replicate, List.cons_append, List.nil_append, List.getElem?_cons_zero, List.getElem?_cons_succ, List.set_cons_zero, List.set_cons_succ, List.length_cons, List.length_nil, List.take_succ_cons, List.take_zero, List.take_nil, List.take_length, List.length_append, Nat.zero_add, Nat.lt_irrefl, Option.map_some, List.length_map, Int.toNat_natCast, if_true, if_false, Bool.false_eq_true, Bool.not_true, Bool.not_false, decide_true, decide_false, reduceCtorEq, lb0, lb1, lb2, lb3, lb4, lb5, lb6, lb7, lb8, $ls,*])
local macro_rules | `(tactic| simp_arith) => `(tactic| simp_arith [Option.bind_some])
theorem pys_ints : ∀ xs : List Int, ∃ ps, pys (xs.map .int) = some ps
  | [] => ⟨[], by simp [pys]⟩
  | x :: xs => by
    obtain ⟨ps, h⟩ := pys_ints xs
    exact ⟨.int x :: ps, by simp [pys, py, h]⟩
theorem depDs_ints : ∀ xs : List Int, depDs (xs.map .int) = 0
  | [] => by simp [depDs]
  | x :: xs => by simp [depDs, depD, depDs_ints xs]
theorem inD_ints (x : Int) (xs : List Int) : inD (.int x) (.lst (xs.map .int)) = some (decide (x ∈ xs)) := by
  unfold inD
  obtain ⟨ps, h⟩ := pys_ints xs
  simp [itemsOf, py, h, depD, depDs_ints]
theorem opIn_ints (x : Int) (xs : List Int) : opIn (.int x) (.lst (xs.map .int)) = some (.bl (decide (x ∈ xs))) := by
  unfold opIn; rw [inD_ints]; rfl
theorem opNotIn_ints (x : Int) (xs : List Int) : opNotIn (.int x) (.lst (xs.map .int)) = some (.bl (!decide (x ∈ xs))) := by
  unfold opNotIn; rw [inD_ints]; rfl
theorem maxZ_spec {xs : List Int} (h : xs ≠ []) : maxZ xs ∈ xs ∧ ∀ x ∈ xs, x ≤ maxZ xs := by
  cases xs with
  | nil => exact absurd rfl h
  | cons x xs =>
    obtain ⟨h1, h2, h3⟩ := foldmax xs x
    refine ⟨?_, fun y hy => ?_⟩
    · rcases h1 with h1 | h1
      · show (xs.foldl _ x) ∈ _
        rw [h1]; exact List.mem_cons_self
      · exact List.mem_cons_of_mem _ h1
    · rcases List.mem_cons.mp hy with rfl | hy
      · exact h2
      · exact h3 y hy
theorem minZ_spec {xs : List Int} (h : xs ≠ []) : minZ xs ∈ xs ∧ ∀ x ∈ xs, minZ xs ≤ x := by
  cases xs with
  | nil => exact absurd rfl h
  | cons x xs =>
    obtain ⟨h1, h2, h3⟩ := foldmin xs x
    refine ⟨?_, fun y hy => ?_⟩
    · rcases h1 with h1 | h1
      · show (xs.foldl _ x) ∈ _
        rw [h1]; exact List.mem_cons_self
      · exact List.mem_cons_of_mem _ h1
    · rcases List.mem_cons.mp hy with rfl | hy
      · exact h2
      · exact h3 y hy
/-! ### law_laid -/
theorem range_filter_lt {c : Nat → Bool} {i n : Nat} (hi : i < n) (hc : c i = true) : ((List.range i).filter c).length + 1 ≤ ((List.range n).filter c).length := by
  have : (List.range (i + 1)).filter c = (List.range i).filter c ++ [i] := by
    rw [List.range_succ, List.filter_append, List.filter_cons, hc]
    rfl
  have h2 : ((List.range (i + 1)).filter c).Sublist ((List.range n).filter c) := (List.range_sublist.mpr hi).filter c
  have := h2.length_le
  rw [‹(List.range (i + 1)).filter c = _›, List.length_append] at this
  exact this
theorem filter_or_le {α : Type} (c d e : α → Bool) (l : List α) (h : ∀ x ∈ l, e x = true → c x = true ∨ d x = true) : (l.filter e).length ≤ (l.filter c).length + (l.filter d).length := by
  induction l with
  | nil => simp
  | cons x xs ih =>
    have ih := ih fun y hy => h y (List.mem_cons_of_mem _ hy)
    rw [List.filter_cons, List.filter_cons, List.filter_cons]
    have hx := h x List.mem_cons_self
    cases e1 : e x with
    | false =>
      rw [if_neg Bool.false_ne_true]
      split <;> split <;> simp <;> omega
    | true =>
      rw [if_pos rfl]
      rcases hx e1 with h1 | h1
      · rw [if_pos h1]; split <;> simp <;> omega
      · rw [if_pos h1]; split <;> simp <;> omega
theorem load_le {n : Int} {ms : Ms} {p : Int} (h0 : 0 ≤ p) (h1 : p < n) : ((meets ms p).length : Int) ≤ gload n ms := by
  refine (maxZ_spec (xs := 0 :: loads n ms) (by simp)).2 _ (List.mem_cons_of_mem _ ?_)
  unfold loads
  exact List.mem_map.mpr ⟨p.toNat, List.mem_range.mpr (by omega), by rw [Int.toNat_of_nonneg h0]⟩
theorem pr_mem {ms : Ms} {i : Nat} (h : i < ms.length) : pr ms i ∈ ms := by
  unfold pr
  rw [List.getD_eq_getElem?_getD, List.getElem?_eq_getElem h]
  exact List.getElem_mem h
theorem used_le {n : Int} {ms : Ms} (hg : Good n ms) {i : Nat} (hi : i < ms.length) : (((List.range i).filter fun j => clashB (pr ms i) (pr ms j)).length : Int) ≤ 2 * gload n ms - 2 := by
  have hp := hg _ (pr_mem hi)
  have h1 := filter_or_le (fun j => decide ((pr ms i).1 = (pr ms j).1 ∨ (pr ms i).1 = (pr ms j).2)) (fun j => decide ((pr ms i).2 = (pr ms j).1 ∨ (pr ms i).2 = (pr ms j).2)) (fun j => clashB (pr ms i) (pr ms j)) (List.range i) fun j _ h => by
    unfold clashB at h
    have := of_decide_eq_true h
    rcases this with h | h
    · exact .inl (decide_eq_true h)
    · exact .inr (decide_eq_true h)
  have h2 := range_filter_lt (c := fun j => decide ((pr ms i).1 = (pr ms j).1 ∨ (pr ms i).1 = (pr ms j).2)) hi (decide_eq_true (.inl rfl))
  have h3 := range_filter_lt (c := fun j => decide ((pr ms i).2 = (pr ms j).1 ∨ (pr ms i).2 = (pr ms j).2)) hi (decide_eq_true (.inr rfl))
  have h4 := load_le (n := n) (ms := ms) (p := (pr ms i).1) hp.1 (by omega)
  have h5 := load_le (n := n) (ms := ms) (p := (pr ms i).2) (by omega) hp.2.2
  unfold meets at h4 h5
  rw [List.length_map] at h4 h5
  omega
theorem free_ne (used : List Int) (k : Nat) (h : used.length < k) : ((List.range k).filter fun (x : Nat) => !decide ((x : Int) ∈ used)) ≠ [] := by
  intro z
  have sub : ((List.range k).map fun (x : Nat) => (x : Int)) ⊆ used := fun y hy => by
    obtain ⟨x, hx, rfl⟩ := List.mem_map.mp hy
    have := List.filter_eq_nil_iff.mp z x hx
    by_cases q : (x : Int) ∈ used
    · exact q
    · rw [decide_eq_false q] at this
      exact absurd rfl this
  have nd : ((List.range k).map fun (x : Nat) => (x : Int)).Nodup := by
    rw [List.nodup_iff_pairwise_ne, List.pairwise_map]
    exact (List.nodup_iff_pairwise_ne.mp List.nodup_range).imp fun h e => h (by omega)
  have := List.Nodup.length_le_of_subset nd sub
  rw [List.length_map, List.length_range] at this
  omega
theorem laid_spec {row : List Int} {t c n k : Int} {ms : Ms} (h0 : 0 ≤ c) (h1 : c ≤ 900000) (hl : ms.length ≤ 100) (hg : Good n ms) (hk : 1 ≤ k) (hk2 : k ≤ 1000) (hkl : 2 * gload n ms - 1 ≤ k) : W (m__law_laid [dl row t, .d (webD n ms), .d (.int k)] [ck c]) fun p => ∃ (plan : List Int) (c' : Int), plan.length = ms.length ∧ c ≤ c' ∧ c' ≤ c + 100 ∧ p = (.d (planD plan), [ck c']) := by
  unfold m__law_laid
  rw [fnD_eq 3 5 b__law_laid _ _ rfl]
  unfold b__law_laid
  simp_arith
  refine W.rg ⟨by omega, by omega⟩ ?_
  simp_arith
  refine W.loop (fun i ρ m => ∃ x4 x5, ∃ (plan : List Int) (c' : Int), ρ = [some (dl row t), some (.d (webD n ms)), some (.d (.int k)), some (.d (planD plan)), x4, x5, none, none] ∧ m = [ck c'] ∧ plan.length = i ∧ c' = c + i) ?_ ?_ ?_
  · exact ⟨_, _, [], _, rfl, rfl, rfl, by omega⟩
  · rintro i y hy ρ m ⟨x4, x5, plan, c', rfl, rfl, hpl, hc⟩
    obtain ⟨hi, rfl⟩ := getElem?_range hy
    refine ⟨_, rfl, ?_⟩
    simp_arith
    rw [eLc_map (ys := List.range y) (k := fun (i : Nat) => D.int (i : Int)) (fun j => clashB (pr ms y) (pr ms j)) (fun j => .int (plan.getD j 0)) (rng (by simp_arith) (by omega)) (by simp; omega)]
    · simp_arith
      have e : (List.map (fun j => D.int (plan.getD j 0)) ((List.range y).filter fun j => clashB (pr ms y) (pr ms j))) = (((List.range y).filter fun j => clashB (pr ms y) (pr ms j)).map fun j => plan.getD j 0).map .int := by
        rw [List.map_map]; rfl
      rw [e]
      have hu := used_le hg hi
      generalize hus : (((List.range y).filter fun j => clashB (pr ms y) (pr ms j)).map fun j => plan.getD j 0) = used
      have hul : used.length < k.toNat := by
        rw [← hus, List.length_map]
        omega
      rw [eLc_map (ys := List.range k.toNat) (k := fun (i : Nat) => D.int (i : Int)) (fun (x : Nat) => !decide ((x : Int) ∈ used)) (fun (x : Nat) => .int (x : Int)) (rng (n := k.toNat) (by simp_arith; rw [Int.toNat_of_nonneg (by omega)]) (by omega)) (by simp; omega)]
      · simp_arith
        have e2 : (List.map (fun (x : Nat) => D.int (x : Int)) ((List.range k.toNat).filter fun (x : Nat) => !decide ((x : Int) ∈ used))) = (((List.range k.toNat).filter fun (x : Nat) => !decide ((x : Int) ∈ used)).map fun (x : Nat) => (x : Int)).map .int := by
          rw [List.map_map]; rfl
        rw [e2]
        refine W.step (pick_spec (by omega) (by omega) (fun z => free_ne used k.toNat hul (List.map_eq_nil_iff.mp z)) (by rw [List.length_map]; have := List.length_filter_le (fun (x : Nat) => !decide ((x : Int) ∈ used)) (List.range k.toNat); rw [List.length_range] at this; omega)) ?_
        rintro _ ⟨x, hx, rfl⟩
        simp_arith [one_p, opAdd_pp plan [x] (by simp; omega)]
        exact ⟨goes_nx, _, _, plan ++ [x], _, rfl, rfl, by simp; omega, by omega⟩
      · intro x hx
        exact ⟨_, rfl, by simp_arith [opNotIn_ints], fun _ => by simp_arith⟩
    · intro j hj
      have hj := List.mem_range.mp hj
      refine ⟨_, rfl, ?_, fun _ => ?_⟩
      · simp_arith [law_clash_eq n ms y j [ck c'] (by omega) (by omega) (by omega) (by omega)]
      · simp_arith [opIx_p plan j (by omega) (by omega)]
  · rintro ρ m ⟨x4, x5, plan, c', rfl, rfl, hpl, hc⟩
    rw [List.length_range] at hpl hc
    simp_arith
    exact ⟨plan, _, hpl, by omega, by omega, rfl⟩
end Lw
namespace Lw
open PySem PySem.Spec L2 PL
set_option autoImplicit false
local macro_rules | `(tactic| simp_arith [$ls,*]) => `(tactic| try simp (maxSteps := 2000000) only [eV, eC, eBin, g2, eUn, eBi, eCall, aNil, aCons, sSeq, sRet, sIf, sSet, sAsg, sExp, tgName, tgTup_pair, sNil, eIf, tAndM, tOrM, tNotM, eAnd, eOr, eNot, tTrue, sFor, iRange1_bind, iSeq, eSl, oNone, oSome, opNeg_i, opSl_l, opSl_t, tOf_eq, look_d, frzE_d, frzAll, eLst, eTup, eLstO, eApp, sPutL, cellL, look, frzE, gIx_d, gIx_own, gIx_deal, dealAt, intOf, opAdd_i, opI_i, opEqA_i, opNeA_i, opEqA_b, opLen_l, opLen_t, opLen_s, opLen_d, itemsOf_l, itemsOf_t, opTuple_l, opTuple_t, opList_l, opList_t, opIx_web0, opIx_web1, opIx_ck, opIn_pair, opNotIn_pair, wipeE, fin, ck, 
  Option.bind_some, Option.bind_none, Option.bind_assoc, W_some, List.map_cons, List.map_nil, List.replicate, List.cons_append, List.nil_append, List.getElem?_cons_zero, List.getElem?_cons_succ, List.set_cons_zero, List.set_cons_succ, List.length_cons, List.length_nil, List.take_succ_cons, List.take_zero, List.take_nil, List.take_length, List.length_append, Nat.zero_add, Nat.lt_irrefl, Option.map_some, List.length_map, Int.toNat_natCast, if_true, if_false, Bool.false_eq_true, Bool.not_true, Bool.not_false, decide_true, decide_false, reduceCtorEq, lb0, lb1, lb2, lb3, lb4, lb5, lb6, lb7, lb8, $ls,*])
local macro_rules | `(tactic| simp_arith) => `(tactic| simp_arith [Option.bind_some])
/-! ### stretches -/
theorem distinct_from : ∀ (l s : List Int), s.Nodup → (l.foldl PyProof.Rows.step_dedup s).Nodup ∧ ∀ x, x ∈ l.foldl PyProof.Rows.step_dedup s ↔ x ∈ s ∨ x ∈ l
  | [], s, h => ⟨h, fun x => by simp⟩
  | a :: l, s, h => by
    rw [List.foldl_cons]
    have e : PyProof.Rows.step_dedup s a = if a ∈ s then s else s ++ [a] := by
      unfold PyProof.Rows.step_dedup
      by_cases q : a ∈ s
      · rw [if_pos q, if_pos]
        exact List.any_eq_true.mpr ⟨a, q, by simp⟩
      · rw [if_neg q, if_neg]
        intro z
        obtain ⟨b, hb, hc⟩ := List.any_eq_true.mp z
        exact q (by rw [← of_decide_eq_true hc]; exact hb)
    rw [e]
    by_cases q : a ∈ s
    · rw [if_pos q]
      obtain ⟨h1, h2⟩ := distinct_from l s h
      refine ⟨h1, fun x => ?_⟩
      rw [h2, List.mem_cons]
      exact ⟨fun z => z.elim .inl fun z => .inr (.inr z), fun z => z.elim .inl fun z => z.elim (fun z => .inl (by rw [z]; exact q)) .inr⟩
    · rw [if_neg q]
      have nd : (s ++ [a]).Nodup := by
        rw [List.nodup_append]
        refine ⟨h, by simp, fun x hx y hy => ?_⟩
        rw [List.mem_singleton] at hy
        exact fun z => q (by rw [← hy, ← z]; exact hx)
      obtain ⟨h1, h2⟩ := distinct_from l _ nd
      refine ⟨h1, fun x => ?_⟩
      rw [h2, List.mem_cons, List.mem_append, List.mem_singleton]
      exact ⟨fun z => z.elim (fun z => z.elim .inl fun z => .inr (.inl z)) fun z => .inr (.inr z), fun z => z.elim (fun z => .inl (.inl z)) fun z => z.elim (fun z => .inl (.inr z)) .inr⟩
theorem distinct_nodup (l : List Int) : (distinct l).Nodup := (distinct_from l [] (by simp)).1
theorem mem_distinct (l : List Int) (x : Int) : x ∈ distinct l ↔ x ∈ l := by
  unfold distinct
  rw [(distinct_from l [] (by simp)).2]
  simp
theorem stretch_iff (l : List Int) : (l ≠ [] → maxZ l - minZ l + 1 = ((distinct l).length : Int)) ↔ ∀ d ∈ l, d = maxZ l ∨ d + 1 ∈ l := by
  by_cases e : l = []
  · rw [e]; simp
  obtain ⟨M1, M2⟩ := maxZ_spec e
  obtain ⟨m1, m2⟩ := minZ_spec e
  have hmm := M2 _ m1
  have ndR : ((List.range (maxZ l - minZ l + 1).toNat).map fun (i : Nat) => minZ l + (i : Int)).Nodup := by
    rw [List.nodup_iff_pairwise_ne, List.pairwise_map]
    exact (List.nodup_iff_pairwise_ne.mp List.nodup_range).imp fun h e => h (by omega)
  have lenR : ((List.range (maxZ l - minZ l + 1).toNat).map fun (i : Nat) => minZ l + (i : Int)).length = (maxZ l - minZ l + 1).toNat := by simp
  have memR : ∀ x, x ∈ ((List.range (maxZ l - minZ l + 1).toNat).map fun (i : Nat) => minZ l + (i : Int)) ↔ minZ l ≤ x ∧ x ≤ maxZ l := fun x => by
    rw [List.mem_map]
    constructor
    · rintro ⟨i, hi, rfl⟩
      have := List.mem_range.mp hi
      omega
    · rintro ⟨a, b⟩
      exact ⟨(x - minZ l).toNat, List.mem_range.mpr (by omega), by omega⟩
  have sub : distinct l ⊆ ((List.range (maxZ l - minZ l + 1).toNat).map fun (i : Nat) => minZ l + (i : Int)) := fun x hx => (memR x).mpr ⟨m2 x ((mem_distinct l x).mp hx), M2 x ((mem_distinct l x).mp hx)⟩
  constructor
  · intro h d hd
    have h := h e
    by_cases c : d = maxZ l
    · exact .inl c
    · refine .inr (Classical.byContradiction fun z => ?_)
      have nd : ((d + 1) :: distinct l).Nodup := List.nodup_cons.mpr ⟨fun w => z ((mem_distinct l _).mp w), distinct_nodup l⟩
      have := List.Nodup.length_le_of_subset nd (l₂ := (List.range (maxZ l - minZ l + 1).toNat).map (fun (i : Nat) => minZ l + (i : Int))) fun x hx => by
        rcases List.mem_cons.mp hx with rfl | hx
        · have := M2 d hd
          have := m2 d hd
          exact (memR _).mpr ⟨by omega, by omega⟩
        · exact sub hx
      rw [lenR, List.length_cons] at this
      omega
  · intro h _
    have up : ∀ k : Nat, minZ l + (k : Int) ≤ maxZ l → minZ l + (k : Int) ∈ l := fun k => by
      induction k with
      | zero => intro _; simpa using m1
      | succ k ih =>
        intro hk
        rcases h _ (ih (by omega)) with c | c
        · omega
        · rw [show minZ l + ((k + 1 : Nat) : Int) = minZ l + (k : Int) + 1 by omega]; exact c
    have sub2 : ((List.range (maxZ l - minZ l + 1).toNat).map fun (i : Nat) => minZ l + (i : Int)) ⊆ distinct l := fun x hx => by
      obtain ⟨a, b⟩ := (memR x).mp hx
      have := up (x - minZ l).toNat (by omega)
      rw [show minZ l + ((x - minZ l).toNat : Int) = x by omega] at this
      exact (mem_distinct l x).mpr this
    have h1 := List.Nodup.length_le_of_subset ndR sub2
    have h2 := List.Nodup.length_le_of_subset (distinct_nodup l) sub
    rw [lenR] at h1 h2
    omega
def St (ms : Ms) (row : List Int) (p : Nat) : Prop := ∀ d ∈ mine ms row p, d = maxZ (mine ms row p) ∨ d + 1 ∈ mine ms row p
theorem bl_and_tr {p : Prop} {b : Bool} : (if tr p = true then b else false) = tr (p ∧ b = true) := by
  by_cases h : p
  · rw [tr_true h, if_pos rfl]
    cases b with
    | true => rw [tr_true ⟨h, rfl⟩]
    | false => rw [tr_false fun z => Bool.noConfusion z.2]
  · rw [tr_false h, if_neg Bool.false_ne_true, tr_false fun z => h z.1]
theorem take_all {xs : List Int} {P : Int → Prop} {j : Nat} {y : Int} (h : xs[j]? = some y) : (∀ d ∈ xs.take (j + 1), P d) ↔ (∀ d ∈ xs.take j, P d) ∧ P y := by
  rw [List.take_succ, h]
  simp only [Option.toList_some, List.mem_append, List.mem_singleton]
  exact ⟨fun z => ⟨fun d hd => z d (.inl hd), z y (.inr rfl)⟩, fun z d hd => hd.elim (z.1 d) fun e => by rw [e]; exact z.2⟩
theorem big_ok {n : Int} (h : -1000000 ≤ n) (h2 : n ≤ 1000000) : okP (-(big : Int) ≤ n ∧ n ≤ (big : Int)) = true := by
  have hb : (big : Int) = 1000000 := rfl
  exact okP_true ⟨by omega, by omega⟩
theorem itemsOf_p (xs : List Int) : itemsOf (planD xs) = some (xs.map .int) := rfl
theorem law_stretches_spec {row : List Int} {t c n : Int} {ms : Ms} {plan : List Int} (h0 : 0 ≤ c) (h1 : c ≤ 900000) (hl : ms.length ≤ 100) (hp : plan.length = ms.length) (hn : 0 ≤ n) (hn1 : n ≤ 1000) : W (m__law_stretches [dl row t, .d (webD n ms), .d (planD plan)] [ck c]) fun p => ∃ c' : Int, c ≤ c' ∧ c' ≤ c + 100 ∧ p = (.d (.bl true), [ck c']) := by
  unfold m__law_stretches
  rw [fnD_eq 3 7 b__law_stretches _ _ rfl]
  unfold b__law_stretches
  simp_arith
  have comp : ∀ (f : Int → Int) (e : Ex) (ρ : Rho) (m : Store), ρ[2]? = some (some (.d (planD plan))) → (∀ (y : Int), e ((wipeE ρ [3]).set 3 (some (.d (.int y)))) m = some (.d (.int (f y)), m)) → eLc (iSeq (eV 2)) [3] (tgName 3) tTrue e ρ m = some (.d (.lst ((plan.map f).map .int)), m) := fun f e ρ m h1 h2 => by
    rw [eLc_all (ys := plan) (k := D.int) (fun y => .int (f y)) (tup_items h1) (by omega), List.map_map]
    · rfl
    · intro y hy
      exact ⟨_, rfl, h2 y⟩
  rw [comp (fun y => 2 * y) _ _ _ rfl (fun y => by simp_arith [opMulA_l 2 y (by decide)])]
  simp_arith [opTuple_li]
  unfold eTupRg
  simp_arith [opLen_p]
  refine W.pos (big_ok (by omega) (by omega)) ?_
  have er : rangeE 0 plan.length = ((List.range plan.length).map fun (i : Nat) => (i : Int)).map D.int := by
    rw [rangeE_zero, List.map_map]; rfl
  have er2 : D.tup (rangeE 0 plan.length) = planD ((List.range plan.length).map fun (i : Nat) => (i : Int)) := by rw [er]; rfl
  rw [er2]
  simp_arith [opLen_p, opMul_zeros plan.length (by omega), opTuple_li]
  rw [show eLc (iSeq (eV 2)) [3] (tgName 3) tTrue (eCall m__law_take (aCons (eV 0) (aCons (eC (.int 3)) aNil))) = fun ρ m => (iSeq (eV 2) ρ m).bind fun p => (lcLoop (tgName 3) tTrue (eCall m__law_take (aCons (eV 0) (aCons (eC (.int 3)) aNil))) (wipeE ρ [3]) p.1 p.2).bind fun r => if r.1.length ≤ big then some (.d (.lst r.1), r.2) else none from rfl]
  simp_arith [itemsOf_p]
  refine W.lc (ys := plan) (k := D.int) (fun i ds m => ∃ (xs : List Int) (c' : Int), ds = xs.map .int ∧ m = [ck c'] ∧ xs.length = i ∧ c' = c + i) ⟨[], c, rfl, rfl, rfl, by simp⟩ ?_ ?_
  · rintro i y hy ds m ⟨xs, c', rfl, rfl, hx, hc⟩
    have hi := (List.getElem?_eq_some_iff.mp hy).1
    refine ⟨_, rfl, ?_⟩
    simp_arith
    refine ⟨fun _ => ?_, fun z => z.elim⟩
    refine W.bnd (W.step (take_spec (by omega) (by omega) (by omega)) ?_)
    rintro _ ⟨v, v0, v1, rfl⟩
    simp_arith
    exact ⟨xs ++ [v], _, by rw [List.map_append]; rfl, rfl, by simp; omega, by omega⟩
  · rintro ds m ⟨xs, c', rfl, rfl, hx, hc⟩
    simp_arith
    refine W.pos (by rw [hx]; unfold big; omega) ?_
    simp_arith [opTuple_li]
    rw [comp (fun y => y + 7) _ _ _ rfl (fun y => by simp_arith)]
    simp_arith [opTuple_li]
    rw [opAdd_ll _ _ (by simp)]
    simp_arith
    refine W.loopE planD [plan, plan.map fun y => 2 * y, (List.range plan.length).map fun (i : Nat) => (i : Int), List.replicate plan.length 0, xs, plan.map fun y => y + 7] rfl (fun i ρ m => ∃ x4 x5 x6 x7 x8 x3, ρ = [some (dl row t), some (.d (webD n ms)), some (.d (planD plan)), x3, x4, x5, x6, x7, x8, none] ∧ m = [ck c']) ?_ ?_ ?_
    · exact ⟨_, _, _, _, _, _, rfl, rfl⟩
    · rintro i r hr ρ m ⟨x4, x5, x6, x7, x8, x3, rfl, rfl⟩
      have hrl : r.length = ms.length := by
        have := List.mem_of_getElem? hr
        simp only [List.mem_cons, List.not_mem_nil, or_false] at this
        rcases this with rfl | rfl | rfl | rfl | rfl | rfl <;> (try simp) <;> omega
      refine ⟨_, rfl, ?_⟩
      simp_arith
      refine W.rg ⟨by omega, by omega⟩ ?_
      simp_arith
      refine W.loop (fun i ρ m => ∃ x4 x7 x8 x3, ρ = [some (dl row t), some (.d (webD n ms)), some (.d (planD plan)), x3, x4, some (.d (planD r)), some (.d (.bl (tr (∀ p : Nat, p < i → St ms r p)))), x7, x8, none] ∧ m = [ck c']) ?_ ?_ ?_
      · rw [tr_true (fun p hp => absurd hp (by omega) : ∀ p : Nat, p < 0 → St ms r p)]
        exact ⟨_, _, _, _, rfl, rfl⟩
      · rintro i y hy ρ m ⟨x4, x7, x8, x3, rfl, rfl⟩
        obtain ⟨hi, rfl⟩ := getElem?_range hy
        refine ⟨_, rfl, ?_⟩
        simp_arith
        rw [eLc_map (ys := List.range r.length) (k := fun (j : Nat) => D.int (j : Int)) (fun i => decide ((y : Int) = (pr ms i).1 ∨ (y : Int) = (pr ms i).2)) (fun i => .int (r.getD i 0)) (rng (by simp_arith [opLen_p]) (by omega)) (by simp; omega)]
        · have e : (List.map (fun i => D.int (r.getD i 0)) ((List.range r.length).filter fun i => decide ((y : Int) = (pr ms i).1 ∨ (y : Int) = (pr ms i).2))) = (mine ms r y).map .int := by
            unfold mine meets
            rw [List.map_map, List.map_map, hrl]
            rfl
          rw [e]
          simp_arith
          refine W.bnd (W.loop (fun j ρ m => ∃ x4 x3, ρ = [some (dl row t), some (.d (webD n ms)), some (.d (planD plan)), x3, x4, some (.d (planD r)), some (.d (.bl (tr ((∀ p : Nat, p < y → St ms r p) ∧ ∀ d ∈ (mine ms r y).take j, d = maxZ (mine ms r y) ∨ d + 1 ∈ mine ms r y)))), some (.d (.int (y : Int))), some (.d (.lst ((mine ms r y).map .int))), none] ∧ m = [ck c']) ?_ ?_ ?_)
          · rw [tr_congr (q := (∀ p : Nat, p < y → St ms r p) ∧ ∀ d ∈ (mine ms r y).take 0, d = maxZ (mine ms r y) ∨ d + 1 ∈ mine ms r y) ⟨fun z => ⟨z, fun d hd => by simp at hd⟩, fun z => z.1⟩]
            exact ⟨_, _, rfl, rfl⟩
          · rintro j d hd ρ m ⟨x4, x3, rfl, rfl⟩
            have hne : mine ms r y ≠ [] := fun z => by rw [z] at hd; cases hd
            refine ⟨_, rfl, ?_⟩
            rw [tr_congr (p := (∀ p : Nat, p < y → St ms r p) ∧ ∀ d ∈ (mine ms r y).take (j + 1), d = maxZ (mine ms r y) ∨ d + 1 ∈ mine ms r y) (q := ((∀ p : Nat, p < y → St ms r p) ∧ ∀ d ∈ (mine ms r y).take j, d = maxZ (mine ms r y) ∨ d + 1 ∈ mine ms r y) ∧ (decide (d = maxZ (mine ms r y) ∨ d + 1 ∈ mine ms r y)) = true) ⟨fun z => ⟨⟨z.1, ((take_all hd).mp z.2).1⟩, decide_eq_true ((take_all hd).mp z.2).2⟩, fun z => ⟨z.1.1, (take_all hd).mpr ⟨z.1.2, of_decide_eq_true z.2⟩⟩⟩]
            generalize hP : ((∀ p : Nat, p < y → St ms r p) ∧ ∀ d ∈ (mine ms r y).take j, d = maxZ (mine ms r y) ∨ d + 1 ∈ mine ms r y) = P
            simp_arith
            by_cases hp : P
            · rw [tr_true hp]
              simp_arith [opMax_eq _ hne, opIn_ints]
              by_cases q1 : d = maxZ (mine ms r y)
              · rw [decide_eq_true q1]
                simp_arith
                rw [tr_true (⟨hp, decide_eq_true (.inl q1)⟩ : P ∧ decide (d = maxZ (mine ms r y) ∨ d + 1 ∈ mine ms r y) = true)]
                exact ⟨goes_nx, _, _, rfl, by trivial⟩
              · rw [decide_eq_false q1]
                simp_arith [opIn_ints]
                by_cases q2 : d + 1 ∈ mine ms r y
                · rw [decide_eq_true q2, tr_true (⟨hp, decide_eq_true (.inr q2)⟩ : P ∧ decide (d = maxZ (mine ms r y) ∨ d + 1 ∈ mine ms r y) = true)]
                  exact ⟨goes_nx, _, _, rfl, by trivial⟩
                · rw [decide_eq_false q2, tr_false (fun z => (of_decide_eq_true z.2).elim q1 q2 : ¬ (P ∧ decide (d = maxZ (mine ms r y) ∨ d + 1 ∈ mine ms r y) = true))]
                  exact ⟨goes_nx, _, _, rfl, by trivial⟩
            · rw [tr_false hp]
              simp_arith
              rw [tr_false (fun z => hp z.1 : ¬ (P ∧ decide (d = maxZ (mine ms r y) ∨ d + 1 ∈ mine ms r y) = true))]
              exact ⟨goes_nx, _, _, rfl, by trivial⟩
          · rintro ρ m ⟨x4, x3, rfl, rfl⟩
            simp_arith
            rw [tr_congr (q := ∀ p : Nat, p < y + 1 → St ms r p) ⟨fun z p hp => by
              by_cases q : p = y
              · rw [q]; exact z.2
              · exact z.1 p (by omega), fun z => ⟨fun p hp => z p (by omega), fun d hd => z y (by omega) d hd⟩⟩]
            exact ⟨goes_nx, _, _, _, _, rfl, by trivial⟩
        · intro i hi
          have hi := List.mem_range.mp hi
          refine ⟨_, rfl, ?_, fun _ => ?_⟩
          · simp_arith [opIx_ms ms i (by omega) (by omega)]
          · simp_arith [opIx_p r i (by omega) (by omega)]
      · rintro ρ m ⟨x4, x7, x8, x3, rfl, rfl⟩
        rw [List.length_range]
        simp_arith [is_in_stretches_eq n ms r [ck c'] (by omega) hrl hn hn1, law_bool_eq]
        rw [tr_congr (p := ∀ p : Nat, p < n.toNat → Stretch ms r p) (q := ∀ p : Nat, p < n.toNat → St ms r p) ⟨fun z p hp => (stretch_iff _).mp (z p hp), fun z p hp => (stretch_iff _).mpr (z p hp)⟩, decide_eq_true rfl]
        simp_arith
        exact ⟨goes_nx, _, _, _, _, _, _, rfl, by trivial⟩
    · rintro ρ m ⟨x4, x5, x6, x7, x8, x3, rfl, rfl⟩
      simp_arith
      exact ⟨_, by omega, by omega, rfl⟩
end Lw
namespace Lw
open PySem PySem.Spec L2 PL
set_option autoImplicit false
local macro_rules | `(tactic| simp_arith [$ls,*]) => `(tactic| try simp (maxSteps := 2000000) only [eV, eC, eBin, g2, eUn, eBi, eCall, aNil, aCons, sSeq, sRet, sIf, sSet, sAsg, sExp, tgName, tgTup_pair, sNil, eIf, tAndM, tOrM, tNotM, eAnd, eOr, eNot, tTrue, sFor, iRange1_bind, iSeq, eSl, oNone, oSome, opNeg_i, opSl_l, opSl_t, tOf_eq, look_d, frzE_d, frzAll, eLst, eTup, eLstO, eApp, sPutL, cellL, look, frzE, gIx_d, gIx_own, gIx_deal, dealAt, intOf, opAdd_i, opI_i, opEqA_i, opNeA_i, opEqA_b, opLen_l, opLen_t, opLen_s, opLen_d, itemsOf_l, itemsOf_t, opTuple_l, opTuple_t, opList_l, opList_t, opIx_web0, opIx_web1, opIx_ck, opIn_pair, opNotIn_pair, wipeE, fin, ck, 
  Option.bind_some, Option.bind_none, Option.bind_assoc, W_some, List.map_cons, List.map_nil, List.replicate, List.cons_append, List.nil_append, List.getElem?_cons_zero, List.getElem?_cons_succ, List.set_cons_zero, List.set_cons_succ, List.length_cons, List.length_nil, List.take_succ_cons, List.take_zero, List.take_nil, List.take_length, List.length_append, Nat.zero_add, Nat.lt_irrefl, Option.map_some, List.length_map, Int.toNat_natCast, if_true, if_false, Bool.false_eq_true, Bool.not_true, Bool.not_false, decide_true, decide_false, reduceCtorEq, lb0, lb1, lb2, lb3, lb4, lb5, lb6, lb7, lb8, $ls,*])
local macro_rules | `(tactic| simp_arith) => `(tactic| simp_arith [Option.bind_some])
theorem W.toEq {α : Type} {o : Option α} {a : α} (h : W o fun x => x = a) : o = some a := by
  obtain ⟨b, e, q⟩ := h
  rw [e, q]
theorem law_rooms_eq (n : Int) (ms : Ms) (plan : List Int) (k : Int) (m : Store) (hl : ms.length ≤ 1000) (hp : plan.length ≤ 1000) (h0 : 1 ≤ k) (h1 : k ≤ 1000) : m__law_rooms [.d (webD n ms), .d (planD plan), .d (.int k)] m = some (.d (.bl true), m) := by
  refine W.toEq ?_
  unfold m__law_rooms
  rw [fnD_eq 3 3 b__law_rooms _ m rfl]
  unfold b__law_rooms
  have hne := counts_ne (plan := plan) h0
  simp_arith [law_counts_eq plan k (.inl rfl) m hp (by omega) h1, law_is_right_eq n ms plan k m hl hp, opMax_eq _ hne]
  have main : ∀ rooms : List Int, W ((forL (tgName 5) (sIf (tNotM (tOf (eCall m__law_bool (aCons (eCall m_shows_rooms (aCons (eV 0) (aCons (eV 2) (aCons (eV 5) (aCons (eV 1) aNil))))) (aCons (eAnd (eV 4) (eBin (g2 opLe) (eUn opMax (eV 3)) (eV 5))) aNil))))) (sRet (eC (.bl false))) sNil) (rooms.map D.int) [some (.d (webD n ms)), some (.d (planD plan)), some (.d (.int k)), some (.d (.lst ((counts plan k).map .int))), some (.d (.bl (tr (Right ms plan k)))), none] m)) fun r => r.1 = .nx ∧ r.2.2 = m ∧ ∃ x5, r.2.1 = [some (.d (webD n ms)), some (.d (planD plan)), some (.d (.int k)), some (.d (.lst ((counts plan k).map .int))), some (.d (.bl (tr (Right ms plan k)))), x5] := fun rooms => by
    refine W.bnd (W.loop (fun i ρ m2 => m2 = m ∧ ∃ x5, ρ = [some (.d (webD n ms)), some (.d (planD plan)), some (.d (.int k)), some (.d (.lst ((counts plan k).map .int))), some (.d (.bl (tr (Right ms plan k)))), x5]) ⟨rfl, _, rfl⟩ ?_ ?_)
    · rintro i r hr ρ m2 ⟨rfl, x5, rfl⟩
      refine ⟨_, rfl, ?_⟩
      simp_arith [shows_rooms_eq n ms plan k r m2 hl hp (by omega) h1]
      have e : tr (Right ms plan k ∧ ∀ c ∈ counts plan k, c ≤ r) = tr (Right ms plan k ∧ maxZ (counts plan k) ≤ r) := tr_congr ⟨fun z => ⟨z.1, z.2 _ (maxZ_spec hne).1⟩, fun z => ⟨z.1, fun c hc => Int.le_trans ((maxZ_spec hne).2 c hc) z.2⟩⟩
      rw [e]
      by_cases hR : Right ms plan k
      · rw [tr_true hR]
        simp_arith [opMax_eq _ hne, law_bool_eq]
        rw [tr_congr (q := maxZ (counts plan k) ≤ r) ⟨fun z => z.2, fun z => ⟨hR, z⟩⟩, ← decide_tr, decide_eq_true rfl]
        simp_arith
        exact ⟨goes_nx, by trivial, _, rfl⟩
      · rw [tr_false hR, tr_false fun z => hR z.1]
        simp_arith [law_bool_eq]
        exact ⟨goes_nx, by trivial, _, rfl⟩
    · rintro ρ m2 ⟨rfl, x5, rfl⟩
      simp_arith
      exact ⟨by trivial, by trivial, _, rfl⟩
  by_cases hz : (0 : Int) < maxZ (counts plan k)
  · rw [decide_eq_true hz]
    simp_arith [opMax_eq _ hne]
    rw [opAdd_ll _ _ (by simp)]
    simp_arith
    refine W.step (main [0, maxZ (counts plan k), maxZ (counts plan k) + 1, 40, maxZ (counts plan k) - 1]) ?_
    rintro ⟨fl, ρ, m2⟩ ⟨rfl, rfl, x5, rfl⟩
    simp_arith [day_counts_eq plan k m2 hp (by omega) h1]
    rw [law_same_ints 4 _ m2 (by unfold counts; simp; omega)]
    simp_arith [is_even_eq plan k m2 hp h0 h1, opMax_eq _ hne, opMin_eq _ hne, law_bool_eq]
  · rw [decide_eq_false hz]
    simp_arith [opMax_eq _ hne]
    rw [opAdd_ll _ _ (by simp)]
    simp_arith
    refine W.step (main [0, maxZ (counts plan k), maxZ (counts plan k) + 1, 40]) ?_
    rintro ⟨fl, ρ, m2⟩ ⟨rfl, rfl, x5, rfl⟩
    simp_arith [day_counts_eq plan k m2 hp (by omega) h1]
    rw [law_same_ints 4 _ m2 (by unfold counts; simp; omega)]
    simp_arith [is_even_eq plan k m2 hp h0 h1, opMax_eq _ hne, opMin_eq _ hne, law_bool_eq]
theorem count_range (k c : Nat) : (((List.range k).map fun (i : Nat) => (i : Int)).filter fun d => decide (d = (c : Int))).length = if c < k then 1 else 0 := by
  induction k with
  | zero => rfl
  | succ k ih =>
    have e : ((List.filter (fun d : Int => decide (d = (c : Int))) [(k : Int)])).length = if k = c then 1 else 0 := by
      rw [List.filter_cons]
      by_cases h : k = c
      · rw [if_pos (decide_eq_true (by omega)), if_pos h]; rfl
      · rw [if_neg (by simp; omega), if_neg h]; rfl
    rw [List.range_succ, List.map_append, List.filter_append, List.length_append, ih]
    show _ + (List.filter (fun d : Int => decide (d = (c : Int))) [(k : Int)]).length = _
    rw [e]
    split <;> split <;> split <;> omega
def even (k r : Nat) : List Int := (List.replicate r ((List.range k).map fun (i : Nat) => (i : Int))).flatten
theorem even_len (k r : Nat) : (even k r).length = r * k := by
  unfold even
  induction r with
  | zero => simp
  | succ r ih => rw [List.replicate_succ, List.flatten_cons, List.length_append, ih, List.length_map, List.length_range, Nat.succ_mul, Nat.add_comm]
theorem even_count (k r c : Nat) (h : c < k) : ((even k r).filter fun d => decide (d = (c : Int))).length = r := by
  unfold even
  induction r with
  | zero => rfl
  | succ r ih => rw [List.replicate_succ, List.flatten_cons, List.filter_append, List.length_append, ih, count_range, if_pos h, Nat.add_comm]
theorem even_more (k r : Nat) (l : List Int) : counts (even k r ++ l) (k : Int) = (List.range k).map fun (c : Nat) => ((r + (l.filter fun d => decide (d = (c : Int))).length : Nat) : Int) := by
  unfold counts
  rw [Int.toNat_natCast]
  refine List.map_congr_left fun c hc => ?_
  rw [List.filter_append, List.length_append, even_count k r c (List.mem_range.mp hc)]
theorem even_one (k r : Nat) (v : Int) (hk : 1 ≤ k) : maxZ (counts (even k r ++ [v]) k) - minZ (counts (even k r ++ [v]) k) < 2 := by
  have hne : counts (even k r ++ [v]) (k : Int) ≠ [] := counts_ne (by omega)
  have h1 := (maxZ_spec hne).1
  have h2 := (minZ_spec hne).1
  generalize maxZ (counts (even k r ++ [v]) k) = M at *
  generalize minZ (counts (even k r ++ [v]) k) = N at *
  rw [even_more] at h1 h2
  obtain ⟨a, _, rfl⟩ := List.mem_map.mp h1
  obtain ⟨b, _, rfl⟩ := List.mem_map.mp h2
  have := List.length_filter_le (fun d => decide (d = (a : Int))) [v]
  rw [List.length_singleton] at this
  omega
theorem even_two (k r : Nat) (v : Int) (hk : 1 ≤ k) (v0 : 0 ≤ v) (v1 : v < k) : (maxZ (counts (even k r ++ [v, v]) k) - minZ (counts (even k r ++ [v, v]) k) < 2) ↔ ((k : Int) = 1) := by
  have hne : counts (even k r ++ [v, v]) (k : Int) ≠ [] := counts_ne (by omega)
  have h1 := maxZ_spec hne
  have h2 := minZ_spec hne
  generalize maxZ (counts (even k r ++ [v, v]) k) = M at *
  generalize minZ (counts (even k r ++ [v, v]) k) = N at *
  rw [even_more] at h1 h2
  constructor
  · intro h
    refine Classical.byContradiction fun z => ?_
    have a1 := h1.2 _ (List.mem_map.mpr ⟨v.toNat, List.mem_range.mpr (by omega), rfl⟩)
    have e1 : ((fun (d : Int) => decide (d = (v.toNat : Int))) v) = true := decide_eq_true (by omega)
    have : ∃ w : Nat, w < k ∧ (w : Int) ≠ v := by
      by_cases q : v = 0
      · exact ⟨1, by omega, by omega⟩
      · exact ⟨0, by omega, by omega⟩
    obtain ⟨w, hw, hwv⟩ := this
    have a2 := h2.2 _ (List.mem_map.mpr ⟨w, List.mem_range.mpr hw, rfl⟩)
    have f1 : ([v, v].filter fun d => decide (d = (v.toNat : Int))).length = 2 := by
      rw [List.filter_cons, if_pos e1, List.filter_cons, if_pos e1]; rfl
    have f2 : ([v, v].filter fun d => decide (d = (w : Int))).length = 0 := by
      rw [List.filter_cons, if_neg (by simp; omega), List.filter_cons, if_neg (by simp; omega)]; rfl
    rw [f1] at a1
    rw [f2] at a2
    omega
  · intro h
    obtain ⟨a, ha, e1⟩ := List.mem_map.mp h1.1
    obtain ⟨b, hb, e2⟩ := List.mem_map.mp h2.1
    have ha := List.mem_range.mp ha
    have hb := List.mem_range.mp hb
    have : a = b := by omega
    rw [← e1, ← e2, this]
    omega
theorem opRep_range (k r : Nat) (h : r * k ≤ 1000) (hk : k ≤ 1000) (hr : r ≤ 1000) : opMulA (.lst (rangeE 0 k)) (.int r) = some (.lst ((even k r).map .int)) := by
  rw [opMulA_rep _ _ ⟨by omega, by omega, by rw [rangeE_length, Int.toNat_natCast, Nat.mul_comm]; unfold big; omega⟩, Int.toNat_natCast, rangeE_zero]
  congr 2
  unfold even
  clear h hr
  induction r with
  | zero => rfl
  | succ r ih =>
    rw [List.replicate_succ, List.flatten_cons, ih, List.replicate_succ, List.flatten_cons, List.map_append, List.map_map]
    rfl
theorem tup_p (xs : List Int) : D.tup (xs.map D.int) = planD xs := rfl
theorem law_even_spec {row : List Int} {t c : Int} (h0 : 0 ≤ c) (h1 : c ≤ 900000) : W (m__law_even [dl row t] [ck c]) fun p => ∃ c' : Int, c ≤ c' ∧ c' ≤ c + 100 ∧ p = (.d (.bl true), [ck c']) := by
  unfold m__law_even
  rw [fnD_eq 1 8 b__law_even _ _ rfl]
  unfold b__law_even
  simp_arith
  refine W.step (take_spec (by omega) (by omega) (by omega)) ?_
  rintro _ ⟨k, k0, k1, rfl⟩
  simp_arith
  refine W.step (take_spec (by omega) (by omega) (by omega)) ?_
  rintro _ ⟨r, r0, r1, rfl⟩
  obtain ⟨k, rfl⟩ : ∃ j : Nat, k = j := ⟨k.toNat, by omega⟩
  obtain ⟨r, rfl⟩ : ∃ j : Nat, r = j := ⟨r.toNat, by omega⟩
  have hk : (1 : Int) + (k : Int) = ((k + 1 : Nat) : Int) := by omega
  have hr : (1 : Int) + (r : Int) = ((r + 1 : Nat) : Int) := by omega
  simp_arith
  rw [hk, hr]
  have hkr : (r + 1) * (k + 1) ≤ 1000 := Nat.le_trans (Nat.mul_le_mul (show r + 1 ≤ 5 by omega) (show k + 1 ≤ 5 by omega)) (by decide)
  have el := even_len (k + 1) (r + 1)
  simp_arith
  unfold eListRg
  simp_arith
  refine W.pos (big_ok (by omega) (by omega)) ?_
  simp_arith [opRep_range (k + 1) (r + 1) hkr (by omega) (by omega), opTuple_li, tup_p]
  refine W.step (take_spec (by omega) (by omega) (by omega)) ?_
  rintro _ ⟨v, v0, v1, rfl⟩
  simp_arith
  refine W.pos (by omega) ?_
  simp_arith [one_p]
  generalize hw : (v + 1) % ((k + 1 : Nat) : Int) = w
  have two : ∀ a b : Int, D.tup [.int a, .int b] = planD [a, b] := fun _ _ => rfl
  simp_arith [two, opAdd_pp (even (k + 1) (r + 1)) [v] (by rw [el]; simp; omega), opAdd_pp (even (k + 1) (r + 1)) [v, w] (by rw [el]; simp; omega), opAdd_pp (even (k + 1) (r + 1)) [v, v] (by rw [el]; simp; omega)]
  rw [eLc_map (ys := even (k + 1) (r + 1)) (k := D.int) (fun d => !decide (d = v)) (fun d => .int d) (tup_items rfl) (by rw [el]; omega)]
  · rw [show (List.map (fun d => D.int d) ((even (k + 1) (r + 1)).filter fun d => !decide (d = v))) = ((even (k + 1) (r + 1)).filter fun d => !decide (d = v)).map D.int from rfl]
    simp_arith [opTuple_li, tup_p]
    refine W.loopE planD [even (k + 1) (r + 1), even (k + 1) (r + 1) ++ [v], even (k + 1) (r + 1) ++ [v, w], even (k + 1) (r + 1) ++ [v, v], (even (k + 1) (r + 1)).filter fun d => !decide (d = v)] (by rfl) (fun i ρ m => m = [ck (c + 1 + 1 + 1)] ∧ ∃ x6 x7, ρ = [some (dl row t), some (.d (.int ((k + 1 : Nat) : Int))), some (.d (.int ((r + 1 : Nat) : Int))), some (.d (planD (even (k + 1) (r + 1)))), some (.d (.int v)), some (.d (.int w)), x6, x7, none]) ⟨rfl, _, _, rfl⟩ ?_ ?_
    · rintro i p hp ρ m ⟨rfl, x6, x7, rfl⟩
      have hpl : p.length ≤ 1000 := by
        have := List.mem_of_getElem? hp
        have hf := List.length_filter_le (fun d => !decide (d = v)) (even (k + 1) (r + 1))
        have hkr : (r + 1) * (k + 1) ≤ 100 := Nat.le_trans (Nat.mul_le_mul (show r + 1 ≤ 5 by omega) (show k + 1 ≤ 5 by omega)) (by decide)
        simp only [List.mem_cons, List.not_mem_nil, or_false] at this
        rcases this with rfl | rfl | rfl | rfl | rfl <;> (try simp only [List.length_append, List.length_cons, List.length_nil]) <;> omega
      have hne := counts_ne (plan := p) (k := ((k + 1 : Nat) : Int)) (by omega)
      refine ⟨_, rfl, ?_⟩
      simp_arith [law_counts_eq p ((k + 1 : Nat) : Int) (.inl rfl) [ck (c + 1 + 1 + 1)] hpl (by omega) (by omega)]
      simp_arith [is_even_eq p ((k + 1 : Nat) : Int) [ck (c + 1 + 1 + 1)] hpl (by omega) (by omega), opMax_eq _ hne, opMin_eq _ hne, law_bool_eq]
      exact ⟨goes_nx, by trivial, _, _, rfl⟩
    · rintro ρ m ⟨rfl, x6, x7, rfl⟩
      have l1 : (even (k + 1) (r + 1) ++ [v]).length ≤ 1000 := by
        have hkr : (r + 1) * (k + 1) ≤ 100 := Nat.le_trans (Nat.mul_le_mul (show r + 1 ≤ 5 by omega) (show k + 1 ≤ 5 by omega)) (by decide)
        rw [List.length_append, el]; simp; omega
      have l2 : (even (k + 1) (r + 1) ++ [v, v]).length ≤ 1000 := by
        have hkr : (r + 1) * (k + 1) ≤ 100 := Nat.le_trans (Nat.mul_le_mul (show r + 1 ≤ 5 by omega) (show k + 1 ≤ 5 by omega)) (by decide)
        rw [List.length_append, el]; simp; omega
      simp_arith [one_p, two, opAdd_pp (even (k + 1) (r + 1)) [v] (by rw [← List.length_append]; omega), opAdd_pp (even (k + 1) (r + 1)) [v, v] (by rw [← List.length_append]; omega)]
      simp_arith [is_even_eq (even (k + 1) (r + 1) ++ [v]) ((k + 1 : Nat) : Int) [ck (c + 1 + 1 + 1)] l1 (by omega) (by omega), law_bool_eq]
      rw [decide_eq_true (even_one (k + 1) (r + 1) v (by omega))]
      simp_arith [one_p, two, opAdd_pp (even (k + 1) (r + 1)) [v] (by rw [← List.length_append]; omega), opAdd_pp (even (k + 1) (r + 1)) [v, v] (by rw [← List.length_append]; omega)]
      simp_arith [is_even_eq (even (k + 1) (r + 1) ++ [v, v]) ((k + 1 : Nat) : Int) [ck (c + 1 + 1 + 1)] l2 (by omega) (by omega), law_bool_eq]
      rw [decide_eq_true (decide_eq_decide.mpr (even_two (k + 1) (r + 1) v (by omega) v0 v1))]
      exact ⟨c + 1 + 1 + 1, by omega, by omega, rfl⟩
  · intro d hd
    exact ⟨_, rfl, by simp_arith, fun _ => by simp_arith⟩
end Lw
namespace Lw
open PySem PySem.Spec L2 PL
set_option autoImplicit false
local macro_rules | `(tactic| simp_arith [$ls,*]) => `(tactic| try simp (maxSteps := 2000000) only [eV, eC, eBin, g2, eUn, eBi, eCall, aNil, aCons, sSeq, sRet, sIf, sSet, sAsg, sExp, tgName, tgTup_pair, sNil, eIf, tAndM, tOrM, tNotM, eAnd, eOr, eNot, tTrue, sFor, iRange1_bind, iSeq, eSl, oNone, oSome, opNeg_i, opSl_l, opSl_t, tOf_eq, look_d, frzE_d, frzAll, eLst, eTup, eLstO, eApp, sPutL, cellL, look, frzE, gIx_d, gIx_own, gIx_deal, dealAt, intOf, opAdd_i, opI_i, opEqA_i, opNeA_i, opEqA_b, opLen_l, opLen_t, opLen_s, opLen_d, itemsOf_l, itemsOf_t, opTuple_l, opTuple_t, opList_l, opList_t, opIx_web0, opIx_web1, opIx_ck, opIn_pair, opNotIn_pair, wipeE, fin, ck, 
  Option.bind_some, Option.bind_none, Option.bind_assoc, W_some, List.map_cons, List.map_nil, List.replicate, List.cons_append, List.nil_append, List.getElem?_cons_zero, List.getElem?_cons_succ, List.set_cons_zero, List.set_cons_succ, List.length_cons, List.length_nil, List.take_succ_cons, List.take_zero, List.take_nil, List.take_length, List.length_append, Nat.zero_add, Nat.lt_irrefl, Option.map_some, List.length_map, Int.toNat_natCast, if_true, if_false, Bool.false_eq_true, Bool.not_true, Bool.not_false, decide_true, decide_false, reduceCtorEq, lb0, lb1, lb2, lb3, lb4, lb5, lb6, lb7, lb8, $ls,*])
local macro_rules | `(tactic| simp_arith) => `(tactic| simp_arith [Option.bind_some])
theorem webOk_n {most n : Int} {ms : Ms} (h : WebOk most n ms) : 0 ≤ n ∧ n ≤ 9 := ⟨h.1, h.2.1⟩
theorem law_weeks_spec {row : List Int} {t c n k : Int} {ms : Ms} {plan : List Int} (h0 : 0 ≤ c) (h1 : c ≤ 800000) (hl : ms.length ≤ 100) (hp : plan.length = ms.length) (hn : 0 ≤ n) (hn1 : n ≤ 1000) (hk : 1 ≤ k) (hk2 : k ≤ 900) : W (m__law_weeks [dl row t, .d (webD n ms), .d (planD plan), .d (.int k)] [ck c]) fun p => ∃ c' : Int, c ≤ c' ∧ c' ≤ c + 100 ∧ p = (.d (.bl true), [ck c']) := by
  unfold m__law_weeks
  rw [fnD_eq 4 6 b__law_weeks _ _ rfl]
  unfold b__law_weeks
  simp_arith
  refine W.loopE D.int [1, 2, 3] (by rfl) (fun i ρ m => ∃ c' : Int, m = [ck c'] ∧ c ≤ c' ∧ c' ≤ c + 2 * i ∧ ∃ x4 x5 x6 x7 x8, ρ = [some (dl row t), some (.d (webD n ms)), some (.d (planD plan)), some (.d (.int k)), x4, x5, x6, x7, x8, none]) ⟨c, rfl, by omega, by omega, _, _, _, _, _, rfl⟩ ?_ ?_
  · rintro i s hs ρ m ⟨c', rfl, hc0, hc1, x4, x5, x6, x7, x8, rfl⟩
    have hs' : 1 ≤ s ∧ s ≤ 3 := by
      have := List.mem_of_getElem? hs
      simp only [List.mem_cons, List.not_mem_nil, or_false] at this
      omega
    have hi : i < 3 := (List.getElem?_eq_some_iff.mp hs).1
    refine ⟨_, rfl, ?_⟩
    simp_arith
    rw [eLc_all (ys := plan) (k := D.int) (fun y => .int (y / s)) (tup_items rfl) (by omega)]
    · rw [show plan.map (fun y => D.int (y / s)) = (plan.map fun y => y / s).map D.int by rw [List.map_map]; rfl]
      simp_arith [opTuple_li, tup_p]
      refine W.pos (by omega) ?_
      simp_arith
      have hq1 : 1 ≤ (k + s - 1) / s := (Int.le_ediv_iff_mul_le (by omega)).mpr (by omega)
      have hq2 : (k + s - 1) / s ≤ 1000 := by
        have := Int.ediv_le_self s (show 0 ≤ k + s - 1 by omega)
        omega
      refine W.step (changed_spec (by omega) (by omega) hl (by rw [List.length_map]; exact hp) hq1) ?_
      rintro _ ⟨ways, c2, hw, hwl, hd0, hd1, rfl⟩
      simp_arith
      refine W.bnd (W.loop (fun j ρ m => m = [ck c2] ∧ ∃ x7 x8, ρ = [some (dl row t), some (.d (webD n ms)), some (.d (planD plan)), some (.d (.int k)), some (.d (.int s)), some (.d (planD (plan.map fun y => y / s))), some (.d (.int ((k + s - 1) / s))), x7, x8, none]) ⟨rfl, _, _, rfl⟩ ?_ ?_)
      · rintro j w hj ρ m ⟨rfl, x7, x8, rfl⟩
        have hwl := hw w (List.mem_of_getElem? hj)
        rw [List.length_map] at hwl
        refine ⟨_, rfl, ?_⟩
        simp_arith
        refine W.bnd (W.loopE D.int [(k + s - 1) / s, 1] (by rfl) (fun j ρ m => m = [ck c2] ∧ ∃ x8, ρ = [some (dl row t), some (.d (webD n ms)), some (.d (planD plan)), some (.d (.int k)), some (.d (.int s)), some (.d (planD (plan.map fun y => y / s))), some (.d (.int ((k + s - 1) / s))), some (.d (planD w)), x8, none]) ⟨rfl, _, rfl⟩ ?_ ?_)
        · rintro j q hq ρ m ⟨rfl, x8, rfl⟩
          have hq' : 1 ≤ q ∧ q ≤ 1000 := by
            have := List.mem_of_getElem? hq
            simp only [List.mem_cons, List.not_mem_nil, or_false] at this
            omega
          refine ⟨_, rfl, ?_⟩
          simp_arith [are_level_eq n ms w q [ck c2] (by omega) (by omega) hn hn1 hq'.1 hq'.2, law_level_eq n ms w q [ck c2] (by omega) (by omega) hn hn1 hq'.1 hq'.2, law_bool_eq]
          exact ⟨goes_nx, by trivial, _, rfl⟩
        · rintro ρ m ⟨rfl, x8, rfl⟩
          simp_arith
          exact ⟨goes_nx, by trivial, _, _, rfl⟩
      · rintro ρ m ⟨rfl, x7, x8, rfl⟩
        simp_arith
        exact ⟨goes_nx, c2, by trivial, by omega, by omega, _, _, _, _, _, rfl⟩
    · intro y hy
      refine ⟨_, rfl, ?_⟩
      simp_arith
      rw [if_pos (by omega)]
      rfl
  · rintro ρ m ⟨c', rfl, hc0, hc1, x4, x5, x6, x7, x8, rfl⟩
    simp_arith
    simp only [List.length_cons, List.length_nil] at hc1
    exact ⟨c', hc0, by omega, rfl⟩
end Lw
namespace PL
open PySem PySem.Spec L2
set_option autoImplicit false
theorem W.while {t : Tx} {body : Sx} (Inv : Nat → Rho → Store → Prop) (Done : Rho → Store → Prop)
    (step : ∀ (k : Nat) (ρ : Rho) (m : Store), Inv k ρ m → W (t ρ m) fun b => (b.1 = true → W (body ρ b.2) fun r => (Goes r.1 ∧ ∃ k', k' < k ∧ Inv k' r.2.1 r.2.2) ∨ (r.1 = .bk ∧ Done r.2.1 r.2.2)) ∧ (b.1 = false → Done ρ b.2)) :
    ∀ (N k : Nat) (ρ : Rho) (m : Store), k < N → Inv k ρ m → W (whileF t body N ρ m) fun r => r.1 = .nx ∧ Done r.2.1 r.2.2
  | 0, k, ρ, m, h, _ => absurd h (Nat.not_lt_zero k)
  | N + 1, k, ρ, m, h, hi => by
    obtain ⟨⟨b, m1⟩, h1, h2, h3⟩ := step k ρ m hi
    show W ((t ρ m).bind _) _
    refine W.eq h1 ?_
    cases b with
    | false => exact ⟨_, rfl, rfl, h3 rfl⟩
    | true =>
      obtain ⟨⟨fl, ρ2, m2⟩, g1, g2⟩ := h2 rfl
      show W ((body ρ m1).bind _) _
      refine W.eq g1 ?_
      rcases g2 with ⟨g, k', hk, hi'⟩ | ⟨g, hd⟩
      · have go := W.while Inv Done step N k' ρ2 m2 (by omega) hi'
        rcases g with g | g
        · have g : fl = .nx := g
          subst g; exact go
        · have g : fl = .ct := g
          subst g; exact go
      · have g : fl = .bk := g
        subst g
        exact ⟨_, rfl, rfl, hd⟩
theorem dget_int (kvs : List (Key × D)) (i : Int) : dget (.dic kvs) (.int i) = some (valD kvs (.inl i)) := rfl
/-- the dict of those that are left -/
def leftK (rem : List Int) : List (Key × D) := rem.map fun i => (.inl i, .bl true)
theorem valD_left (rem : List Int) (i : Int) : (valD (leftK rem) (.inl i)).isSome = decide (i ∈ rem) := by
  unfold valD leftK
  induction rem with
  | nil => rfl
  | cons x xs ih =>
    rw [List.map_cons, List.find?_cons]
    by_cases h : x = i
    · rw [h]; simp
    · have : decide ((((Sum.inl x : Key), D.bl true) : Key × D).1 = Sum.inl i) = false := decide_eq_false fun z => h (Sum.inl.inj z)
      rw [this, ih]
      simp [Ne.symm h]
theorem dropD_left (rem : List Int) (i : Int) : dropD (leftK rem) (.inl i) = leftK (rem.filter fun x => decide (x ≠ i)) := by
  unfold dropD leftK
  rw [List.filter_map]
  congr 1
  refine List.filter_congr fun x _ => ?_
  by_cases h : x = i <;> simp [h]
theorem putD_len {κ : Type} [DecidableEq κ] (kvs : List (κ × D)) (k : κ) (v : D) : (putD kvs k v).length ≤ kvs.length + 1 := by
  unfold putD
  split <;> simp
theorem valD_put {κ : Type} [DecidableEq κ] (kvs : List (κ × D)) (k : κ) (v : D) (j : κ) : valD (putD kvs k v) j = if j = k then some v else valD kvs j := by
  unfold valD putD
  by_cases h : (kvs.any fun kv => decide (kv.1 = k)) = true
  · rw [if_pos h]
    induction kvs with
    | nil => simp at h
    | cons x xs ih =>
      rw [List.map_cons, List.find?_cons]
      by_cases hx : x.1 = k
      · rw [if_pos hx]
        by_cases hj : j = k
        · rw [if_pos hj, hj]
          simp [hx]
        · rw [if_neg hj, List.find?_cons]
          have e1 : decide (x.1 = j) = false := decide_eq_false fun z => hj (by rw [← z, hx])
          show Option.map _ (match decide (x.1 = j) with | true => _ | false => _) = Option.map _ (match decide (x.1 = j) with | true => _ | false => _)
          rw [e1]
          show Option.map _ (List.find? _ _) = Option.map _ (List.find? _ _)
          by_cases hxs : (xs.any fun kv => decide (kv.1 = k)) = true
          · have := ih hxs
            rw [if_neg hj] at this
            exact this
          · have e : xs.map (fun kv => if kv.1 = k then (kv.1, v) else kv) = xs := by
              refine List.map_congr_left (g := id) (fun y hy => ?_) |>.trans (List.map_id _)
              rw [if_neg fun z => hxs (List.any_eq_true.mpr ⟨y, hy, decide_eq_true z⟩)]
              rfl
            rw [e]
      · rw [if_neg hx]
        have hxs : (xs.any fun kv => decide (kv.1 = k)) = true := by
          rw [List.any_cons, decide_eq_false hx, Bool.false_or] at h
          exact h
        rw [List.find?_cons]
        by_cases hxj : x.1 = j
        · rw [decide_eq_true hxj]
          show some x.2 = _
          rw [if_neg fun z => hx (by rw [hxj, z])]
          rfl
        · rw [decide_eq_false hxj]
          exact ih hxs
  · rw [if_neg h, List.find?_append]
    by_cases hj : j = k
    · rw [if_pos hj, hj]
      have : kvs.find? (fun kv => decide (kv.1 = k)) = none := List.find?_eq_none.mpr fun y hy z => h (List.any_eq_true.mpr ⟨y, hy, z⟩)
      rw [this]
      simp
    · rw [if_neg hj]
      cases kvs.find? fun kv => decide (kv.1 = j) with
      | some y => rfl
      | none => simp [Ne.symm hj]
end PL
namespace Lw
open PySem PySem.Spec L2 PL
set_option autoImplicit false
local macro_rules | `(tactic| simp_arith [$ls,*]) => `(tactic| try simp (maxSteps := 2000000) only [eV, eC, eBin, g2, eUn, eBi, eCall, aNil, aCons, sSeq, sRet, sIf, sSet, sAsg, sExp, tgName, tgTup_pair, sNil, eIf, tAndM, tOrM, tNotM, eAnd, eOr, eNot, tTrue, sFor, iRange1_bind, iSeq, eSl, oNone, oSome, opNeg_i, opSl_l, opSl_t, tOf_eq, look_d, frzE_d, frzAll, eLst, eTup, eLstO, eApp, sPutL, cellL, look, frzE, gIx_d, gIx_own, gIx_deal, dealAt, intOf, opAdd_i, opI_i, opEqA_i, opNeA_i, opEqA_b, opLen_l, opLen_t, opLen_s, opLen_d, itemsOf_l, itemsOf_t, opTuple_l, opTuple_t, opList_l, opList_t, opIx_web0, opIx_web1, opIx_ck, opIn_pair, opNotIn_pair, wipeE, fin, ck, 
  Option.bind_some, Option.bind_none, Option.bind_assoc, W_some, List.map_cons, List.map_nil, List.replicate, List.cons_append, List.nil_append, List.getElem?_cons_zero, List.getElem?_cons_succ, List.set_cons_zero, List.set_cons_succ, List.length_cons, List.length_nil, List.take_succ_cons, List.take_zero, List.take_nil, List.take_length, List.length_append, Nat.zero_add, Nat.lt_irrefl, Option.map_some, List.length_map, Int.toNat_natCast, if_true, if_false, Bool.false_eq_true, Bool.not_true, Bool.not_false, decide_true, decide_false, reduceCtorEq, lb0, lb1, lb2, lb3, lb4, lb5, lb6, lb7, lb8, $ls,*])
local macro_rules | `(tactic| simp_arith) => `(tactic| simp_arith [Option.bind_some])
def lefts (ms : Ms) (rem : List Int) (p : Int) : List Int := (meets ms p).filter fun i => decide (i ∈ rem)
theorem start_spec {n : Int} {ms : Ms} {rem : List Int} {m : Store} {b : Nat} (hl : ms.length ≤ 100) (hn : 0 ≤ n) (hn1 : n ≤ 100) (hg : Good n ms) (hb : m[b]? = some (.dic (leftK rem))) (hr : ∃ i ∈ rem, 0 ≤ i ∧ i < ms.length) : W (m_start_of [.d (webD n ms), .own b] m) fun p => ∃ v : Int, lefts ms rem v ≠ [] ∧ p = (.d (.int v), m) := by
  unfold m_start_of
  rw [fnD_eq 2 4 b_start_of _ _ rfl]
  unfold b_start_of
  simp_arith
  rw [eLc_all (ys := List.range n.toNat) (k := fun (i : Nat) => D.int (i : Int)) (fun (p : Nat) => .int ((lefts ms rem (p : Int)).length : Int)) (rng (n := n.toNat) (by simp_arith; rw [Int.toNat_of_nonneg hn]) (by omega)) (by simp; omega)]
  · have e1 : (List.range n.toNat).map (fun (p : Nat) => D.int ((lefts ms rem (p : Int)).length : Int)) = ((List.range n.toNat).map fun (p : Nat) => ((lefts ms rem (p : Int)).length : Int)).map D.int := by rw [List.map_map]; rfl
    rw [e1]
    simp_arith
    have cts : ∀ p : Nat, p < n.toNat → opIx (.lst (((List.range n.toNat).map fun (p : Nat) => ((lefts ms rem (p : Int)).length : Int)).map D.int)) (.int (p : Int)) = some (.int ((lefts ms rem (p : Int)).length : Int)) := fun p hp => by
      rw [opIx_li _ _ (by omega) (by rw [List.length_map, List.length_range]; omega), Int.toNat_natCast]
      rw [List.getD_eq_getElem?_getD, List.getElem?_map, List.getElem?_range hp]
      rfl
    have first : ∀ (c : Nat → Bool) (l : List Nat), l = (List.range n.toNat).filter c → l ≠ [] → ∃ p : Nat, c p = true ∧ p < n.toNat ∧ opIx (.lst (l.map fun (p : Nat) => D.int (p : Int))) (.int 0) = some (.int (p : Int)) := fun c l el hne => by
      cases l with
      | nil => exact absurd rfl hne
      | cons x xs =>
        have : x ∈ (List.range n.toNat).filter c := by rw [← el]; exact List.mem_cons_self
        obtain ⟨h1, h2⟩ := List.mem_filter.mp this
        refine ⟨x, h2, List.mem_range.mp h1, ?_⟩
        rw [show ((x :: xs).map fun (p : Nat) => D.int (p : Int)) = ((x :: xs).map fun (p : Nat) => (p : Int)).map D.int by rw [List.map_map]; rfl, opIx_li _ _ (by omega) (by simp)]
        rfl
    rw [eLc_map (ys := List.range n.toNat) (k := fun (i : Nat) => D.int (i : Int)) (fun (p : Nat) => decide (((lefts ms rem (p : Int)).length : Int) % 2 = 1)) (fun (p : Nat) => .int (p : Int)) (rng (n := n.toNat) (by simp_arith; rw [Int.toNat_of_nonneg hn]) (by omega)) (by simp; omega)]
    · simp_arith
      by_cases ho : (List.range n.toNat).filter (fun (p : Nat) => decide (((lefts ms rem (p : Int)).length : Int) % 2 = 1)) = []
      · rw [ho, decide_eq_false (by simp)]
        simp_arith
        rw [eLc_map (ys := List.range n.toNat) (k := fun (i : Nat) => D.int (i : Int)) (fun (p : Nat) => decide ((0 : Int) < ((lefts ms rem (p : Int)).length : Int))) (fun (p : Nat) => .int (p : Int)) (rng (n := n.toNat) (by simp_arith; rw [Int.toNat_of_nonneg hn]) (by omega)) (by simp; omega)]
        · obtain ⟨p, h1, h2, h3⟩ := first (fun (p : Nat) => decide ((0 : Int) < ((lefts ms rem (p : Int)).length : Int))) _ rfl (by
            intro z
            obtain ⟨i, hi, i0, i1⟩ := hr
            have hp := hg _ (pr_mem (ms := ms) (i := i.toNat) (by omega))
            refine List.filter_eq_nil_iff.mp z (pr ms i.toNat).1.toNat (List.mem_range.mpr (by omega)) (decide_eq_true ?_)
            have : i ∈ lefts ms rem ((pr ms i.toNat).1.toNat : Int) := by
              rw [Int.toNat_of_nonneg hp.1]
              exact List.mem_filter.mpr ⟨by
                unfold meets
                refine List.mem_map.mpr ⟨i.toNat, List.mem_filter.mpr ⟨List.mem_range.mpr (by omega), decide_eq_true (.inl rfl)⟩, by omega⟩, decide_eq_true hi⟩
            have := List.length_pos_of_mem this
            omega)
          simp_arith [h3]
          refine ⟨(p : Int), fun z => ?_, rfl⟩
          have := of_decide_eq_true h1
          rw [z] at this
          simp at this
        · intro p hp
          have hp := List.mem_range.mp hp
          exact ⟨_, rfl, by simp_arith [cts p hp], fun _ => by simp_arith⟩
      · obtain ⟨p, h1, h2, h3⟩ := first _ _ rfl ho
        have := List.length_pos_iff.mpr ho
        rw [decide_eq_true (by omega)]
        simp_arith [h3]
        refine ⟨(p : Int), fun z => ?_, rfl⟩
        have := of_decide_eq_true h1
        rw [z] at this
        simp at this
    · intro p hp
      have hp := List.mem_range.mp hp
      refine ⟨_, rfl, ?_, fun _ => by simp_arith⟩
      simp_arith [cts p hp]
      rw [if_pos (by decide)]
      simp_arith
  · intro p hp
    refine ⟨_, rfl, ?_⟩
    simp_arith
    rw [eLc_map (ys := meets ms p) (k := D.int) (fun i => decide (i ∈ rem)) (fun i => .int i) (lst_items (by simp_arith [meetings_of_eq n ms p m (by omega)])) (by have := meets_len ms p; omega)]
    · simp_arith
      rfl
    · intro i hi
      refine ⟨_, rfl, ?_, fun _ => by simp_arith⟩
      unfold eInD
      simp_arith
      rw [hb]
      simp_arith [dget_int, valD_left]
theorem dc_left (ρ : Rho) (hρ : 5 < ρ.length) (m : Store) : ∀ (ys acc : List Int), (acc ++ ys).Nodup → (acc ++ ys).length ≤ 1000 → dcLoop (tgName 5) tTrue (eV 5) (eC (.bl true)) ρ (ys.map D.int) (leftK acc) m = some (leftK (acc ++ ys), m)
  | [], acc, _, _ => by rw [List.append_nil]; rfl
  | y :: ys, acc, hn, hl => by
    rw [List.map_cons]
    have e : (ρ.set 5 (some (.d (.int y))))[5]? = some (some (.d (.int y))) := by
      rw [List.getElem?_set_self hρ]
    have hy : ¬ y ∈ acc := fun z => (List.nodup_append.mp hn).2.2 y z y List.mem_cons_self rfl
    have e2 : putD (leftK acc) (.inl y) (.bl true) = leftK (acc ++ [y]) := by
      unfold putD
      rw [if_neg]
      · unfold leftK; rw [List.map_append]; rfl
      · intro z
        obtain ⟨kv, h1, h2⟩ := List.any_eq_true.mp z
        unfold leftK at h1
        obtain ⟨i, hi, rfl⟩ := List.mem_map.mp h1
        have := Sum.inl.inj (of_decide_eq_true h2)
        exact hy (by rw [← this]; exact hi)
    have hal : (leftK acc).length < big := by
      unfold leftK big
      rw [List.length_append] at hl
      rw [List.length_map]
      omega
    show ((tgName 5 (.d (.int y)) ρ).bind _) = _
    rw [show tgName 5 (.d (.int y)) ρ = some (ρ.set 5 (some (.d (.int y)))) from rfl, Option.bind_some]
    show ((eV 5 (ρ.set 5 (some (.d (.int y)))) m).bind _) = _
    have e3 : eV 5 (ρ.set 5 (some (.d (.int y)))) m = some (.d (.int y), m) := by unfold eV; rw [e]
    rw [e3]
    show (if (leftK acc).length < big then dcLoop (tgName 5) tTrue (eV 5) (eC (.bl true)) ρ (ys.map D.int) (putD (leftK acc) (.inl y) (.bl true)) m else none) = _
    rw [if_pos hal, e2, dc_left ρ hρ m ys (acc ++ [y]) (by rw [List.append_assoc]; exact hn) (by rw [List.append_assoc]; exact hl), List.append_assoc]
    rfl
/-- what fair_homes knows: the rest, and homes for the others -/
def HomesInv (ms : Ms) (rem : List Int) (H : List (Key × D)) : Prop := (∀ i ∈ rem, 0 ≤ i ∧ i < ms.length) ∧ H.length + rem.length ≤ ms.length ∧ ∀ i : Int, 0 ≤ i → i < ms.length → i ∉ rem → ∃ v : Int, valD H (.inl i) = some (.int v)
theorem filter_ne_len {rem : List Int} {i : Int} (h : i ∈ rem) : (rem.filter fun x => decide (x ≠ i)).length < rem.length := by
  induction rem with
  | nil => cases h
  | cons x xs ih =>
    rw [List.filter_cons]
    by_cases e : x = i
    · rw [if_neg (by simp [e])]
      have := List.length_filter_le (fun x => decide (x ≠ i)) xs
      rw [List.length_cons]
      omega
    · rw [if_pos (by simp [e])]
      have := ih ((List.mem_cons.mp h).resolve_left fun z => e z.symm)
      rw [List.length_cons, List.length_cons]
      omega
theorem HomesInv.put {ms : Ms} {rem : List Int} {H : List (Key × D)} (h : HomesInv ms rem H) {i : Int} (hi : i ∈ rem) (v : Int) : HomesInv ms (rem.filter fun x => decide (x ≠ i)) (putD H (.inl i) (.int v)) := by
  refine ⟨fun j hj => h.1 j (List.mem_filter.mp hj).1, ?_, fun j j0 j1 hj => ?_⟩
  · have := putD_len H (.inl i) (.int v)
    have := filter_ne_len hi
    have := h.2.1
    omega
  · rw [valD_put]
    by_cases e : j = i
    · exact ⟨v, by rw [e, if_pos rfl]⟩
    · rw [if_neg fun z => e (Sum.inl.inj z)]
      refine h.2.2 j j0 j1 fun z => hj (List.mem_filter.mpr ⟨z, by simp [e]⟩)
theorem fair_homes_spec {n : Int} {ms : Ms} {o : O} (hl : ms.length ≤ 100) (hn : 0 ≤ n) (hn1 : n ≤ 100) (hg : Good n ms) : W (m_fair_homes [.d (webD n ms)] [o]) fun p => ∃ homes : List Int, homes.length = ms.length ∧ p = (.d (planD homes), [o]) := by
  unfold m_fair_homes
  rw [fnD_eq 1 5 b_fair_homes _ _ rfl]
  unfold b_fair_homes
  simp_arith [eDicO, eDcO]
  refine W.rg ⟨by omega, by omega⟩ ?_
  rw [Int.toNat_natCast]
  have em : (List.range ms.length).map (fun (i : Nat) => D.int (i : Int)) = ((List.range ms.length).map fun (i : Nat) => (i : Int)).map D.int := by rw [List.map_map]; rfl
  simp_arith
  rw [em]
  refine W.eq (dc_left _ (by simp) _ ((List.range ms.length).map fun (i : Nat) => (i : Int)) [] (by
    rw [List.nil_append, List.nodup_iff_pairwise_ne, List.pairwise_map]
    exact (List.nodup_iff_pairwise_ne.mp List.nodup_range).imp fun h e => h (by omega)) (by simp; omega)) ?_
  rw [List.nil_append]
  simp_arith [sWhile]
  refine W.step (W.while (fun k ρ m => ∃ (rem : List Int) (H : List (Key × D)) (x3 x4 : Option E), k = rem.length ∧ m = [o, .dic H, .dic (leftK rem)] ∧ HomesInv ms rem H ∧ ρ = [some (.d (webD n ms)), some (.own 1), some (.own 2), x3, x4, none]) (fun ρ m => ∃ (H : List (Key × D)) (x3 x4 : Option E), m = [o, .dic H, .dic []] ∧ HomesInv ms [] H ∧ ρ = [some (.d (webD n ms)), some (.own 1), some (.own 2), x3, x4, none]) ?_ wN ms.length _ _ (by rw [wN_big]; omega) ?_) ?_
  · rintro k ρ m ⟨rem, H, x3, x4, rfl, rfl, hi, rfl⟩
    simp_arith
    refine ⟨fun hk => ?_, fun hk => ?_⟩
    · have hk : rem ≠ [] := fun z => by rw [z] at hk; exact absurd (of_decide_eq_true hk) (by simp [leftK])
      obtain ⟨i0, hi0⟩ := List.exists_mem_of_ne_nil _ hk
      refine W.step (start_spec (b := 2) hl hn hn1 hg rfl ⟨i0, hi0, hi.1 i0 hi0⟩) ?_
      rintro _ ⟨v, hv, rfl⟩
      simp_arith
      refine W.bnd (W.step (W.while (fun k ρ m => ∃ (r2 : List Int) (H2 : List (Key × D)) (w : Int) (x4 : Option E), k = r2.length ∧ (r2.length < rem.length ∨ (r2 = rem ∧ lefts ms r2 w ≠ [])) ∧ m = [o, .dic H2, .dic (leftK r2)] ∧ HomesInv ms r2 H2 ∧ ρ = [some (.d (webD n ms)), some (.own 1), some (.own 2), some (.d (.int w)), x4, none]) (fun ρ m => ∃ (r2 : List Int) (H2 : List (Key × D)) (x3 x4 : Option E), r2.length < rem.length ∧ m = [o, .dic H2, .dic (leftK r2)] ∧ HomesInv ms r2 H2 ∧ ρ = [some (.d (webD n ms)), some (.own 1), some (.own 2), x3, x4, none]) ?_ wN rem.length _ _ (by rw [wN_big]; have := hi.2.1; omega) ?_) ?_)
      · rintro k ρ m ⟨r2, H2, w, x4, rfl, hlt, rfl, hi2, rfl⟩
        simp_arith
        refine ⟨fun _ => ?_, fun z => nomatch z⟩
        rw [eLc_map (ys := meets ms w) (k := D.int) (fun i => decide (i ∈ r2)) (fun i => .int i) (lst_items (by simp_arith [meetings_of_eq n ms w _ (show ms.length ≤ 1000 by omega)])) (by have := meets_len ms w; omega)]
        · simp_arith
          cases hw : lefts ms r2 w with
          | nil =>
            have hw' : (meets ms w).filter (fun i => decide (i ∈ r2)) = [] := hw
            rw [hw', decide_eq_true (by simp)]
            simp_arith [sBrk]
            refine .inr ⟨by trivial, r2, H2, _, _, ?_, rfl, hi2, rfl⟩
            rcases hlt with hlt | ⟨_, hne⟩
            · exact hlt
            · exact absurd hw hne
          | cons y ys =>
            have hw' : (meets ms w).filter (fun i => decide (i ∈ r2)) = y :: ys := hw
            rw [hw', decide_eq_false (by simp; omega)]
            have hy : y ∈ (meets ms w).filter (fun i => decide (i ∈ r2)) := by rw [hw']; exact List.mem_cons_self
            obtain ⟨hy1, hy2⟩ := List.mem_filter.mp hy
            obtain ⟨y0, y1, hy3⟩ := meets_mem hy1
            have hy2 := of_decide_eq_true hy2
            have e0 : opIx (.lst (D.int y :: ys.map fun i => D.int i)) (.int 0) = some (.int y) := by
              rw [show (D.int y :: ys.map fun i => D.int i) = (y :: ys).map D.int from rfl, opIx_li _ _ (by omega) (by simp)]
              rfl
            have hH : H2.length < big := by
              have := hi2.2.1
              unfold big
              omega
            simp_arith [sPutD, sDelD, e0, PL.keyOf, if_pos hH, valD_left, decide_eq_true hy2, other_of_eq n ms y w _ y0 y1, dropD_left]
            refine .inl ⟨goes_nx, _, filter_ne_len hy2, _, _, _, _, rfl, .inl ?_, rfl, hi2.put hy2 w, rfl⟩
            have := filter_ne_len hy2
            rcases hlt with hlt | ⟨e, _⟩
            · omega
            · rw [← e]; exact this
        · intro i hi
          refine ⟨_, rfl, ?_, fun _ => by simp_arith⟩
          unfold eInD
          simp_arith [dget_int, valD_left]
      · exact ⟨rem, H, v, _, rfl, .inr ⟨rfl, hv⟩, rfl, hi, rfl⟩
      · rintro ⟨fl, ρ, m⟩ ⟨rfl, r2, H2, x3, x4, hlt, rfl, hi2, rfl⟩
        simp_arith
        exact .inl ⟨goes_nx, _, hlt, r2, H2, _, _, rfl, rfl, hi2, rfl⟩
    · have hk : rem = [] := by
        cases rem with
        | nil => rfl
        | cons x xs => exact absurd (of_decide_eq_false hk) (by simp [leftK] <;> omega)
      subst hk
      exact ⟨H, _, _, rfl, hi, rfl⟩
  · refine ⟨(List.range ms.length).map fun (i : Nat) => (i : Int), [], _, _, by simp, rfl, ⟨fun i hi => ?_, by simp, fun i i0 i1 hi => ?_⟩, rfl⟩
    · obtain ⟨j, hj, rfl⟩ := List.mem_map.mp hi
      have := List.mem_range.mp hj
      omega
    · exact absurd (List.mem_map.mpr ⟨i.toNat, List.mem_range.mpr (by omega), by omega⟩) hi
  · rintro ⟨fl, ρ, m⟩ ⟨rfl, H, x3, x4, rfl, hi, rfl⟩
    simp_arith
    have hv : ∀ i : Nat, i < ms.length → ∃ v : Int, valD H (.inl (i : Int)) = some (.int v) := fun i h => hi.2.2 i (by omega) (by omega) (by simp)
    have hv' : ∃ f : Nat → Int, ∀ i : Nat, i < ms.length → valD H (.inl (i : Int)) = some (.int (f i)) := ⟨fun i => if h : i < ms.length then (hv i h).choose else 0, fun i h => by
      show _ = some (D.int (if h : i < ms.length then (hv i h).choose else 0))
      rw [dif_pos h]
      exact (hv i h).choose_spec⟩
    obtain ⟨f, hf⟩ := hv'
    rw [eLc_all (ys := List.range ms.length) (k := fun (i : Nat) => D.int (i : Int)) (fun i => .int (f i)) (rng (by simp_arith) (by omega)) (by simp; omega)]
    · rw [show (List.range ms.length).map (fun i => D.int (f i)) = ((List.range ms.length).map f).map D.int by rw [List.map_map]; rfl]
      simp_arith [opTuple_li]
      exact ⟨(List.range ms.length).map f, by simp, rfl⟩
    · intro i hi
      have hi := List.mem_range.mp hi
      refine ⟨_, rfl, ?_⟩
      unfold eGetD
      simp_arith [dget_int, hf i hi]
end Lw
namespace Lw
open PySem PySem.Spec L2 PL
set_option autoImplicit false
local macro_rules | `(tactic| simp_arith [$ls,*]) => `(tactic| try simp (maxSteps := 2000000) only [eV, eC, eBin, g2, eUn, eBi, eCall, aNil, aCons, sSeq, sRet, sIf, sSet, sAsg, sExp, tgName, tgTup_pair, sNil, eIf, tAndM, tOrM, tNotM, eAnd, eOr, eNot, tTrue, sFor, iRange1_bind, iSeq, eSl, oNone, oSome, opNeg_i, opSl_l, opSl_t, tOf_eq, look_d, frzE_d, frzAll, eLst, eTup, eLstO, eApp, sPutL, cellL, look, frzE, gIx_d, gIx_own, gIx_deal, dealAt, intOf, opAdd_i, opI_i, opEqA_i, opNeA_i, opEqA_b, opLen_l, opLen_t, opLen_s, opLen_d, itemsOf_l, itemsOf_t, opTuple_l, opTuple_t, opList_l, opList_t, opIx_web0, opIx_web1, opIx_ck, opIn_pair, opNotIn_pair, wipeE, fin, ck, 
  Option.bind_some, Option.bind_none, Option.bind_assoc, W_some, List.map_cons, List.map_nil, List.replicate, List.cons_append, List.nil_append, List.getElem?_cons_zero, List.getElem?_cons_succ, List.set_cons_zero, List.set_cons_succ, List.length_cons, List.length_nil, List.take_succ_cons, List.take_zero, List.take_nil, List.take_length, List.length_append, Nat.zero_add, Nat.lt_irrefl, Option.map_some, List.length_map, Int.toNat_natCast, if_true, if_false, Bool.false_eq_true, Bool.not_true, Bool.not_false, decide_true, decide_false, reduceCtorEq, lb0, lb1, lb2, lb3, lb4, lb5, lb6, lb7, lb8, $ls,*])
local macro_rules | `(tactic| simp_arith) => `(tactic| simp_arith [Option.bind_some])
theorem atHome_len {ms : Ms} {homes : List Int} (h : Homes ms homes) (p : Int) : (atHome ms homes p).length = (homes.filter fun x => decide (x = p)).length := by
  unfold atHome meets
  rw [List.filter_map, List.length_map, List.filter_filter, ← h.1]
  have e := congrArg List.length (filter_range homes 0 (fun x => decide (x = p)) id)
  rw [List.length_map, List.length_map] at e
  rw [← e]
  congr 1
  refine List.filter_congr fun i hi => ?_
  have hi := List.mem_range.mp hi
  show (decide (homes.getD ((i : Int)).toNat 0 = p) && decide (p = (pr ms i).1 ∨ p = (pr ms i).2)) = decide (homes.getD i 0 = p)
  rw [Int.toNat_natCast]
  by_cases q : homes.getD i 0 = p
  · rw [decide_eq_true q, Bool.true_and]
    have := h.2 i (by rw [← h.1]; exact hi)
    rw [q] at this
    exact decide_eq_true this
  · rw [decide_eq_false q, Bool.false_and]
theorem law_homes_spec {row : List Int} {t c n : Int} {ms : Ms} (h0 : 0 ≤ c) (h1 : c ≤ 900000) (hl : ms.length ≤ 100) (hn : 0 ≤ n) (hn1 : n ≤ 100) (hg : Good n ms) : W (m__law_homes [dl row t, .d (webD n ms)] [ck c]) fun p => ∃ c' : Int, c ≤ c' ∧ c' ≤ c + 200 ∧ p = (.d (.bl true), [ck c']) := by
  unfold m__law_homes
  rw [fnD_eq 2 13 b__law_homes _ _ rfl]
  unfold b__law_homes
  generalize hT : (sSeq (sFor (iSeq (eV 3)) (tgName 8) (sSeq (sSet 9 (eAnd (eBin (g2 opEqA) (eUn opLen (eV 8)) (eUn opLen (eBin gIx (eV 1) (eC (.int 1))))) (eBin (g2 opEqA) (eUn opLen (eLc (iRange1 (eUn opLen (eV 8))) [14] (tgName 14) (tOf (eBin (g2 opNotIn) (eBin gIx (eV 8) (eV 14)) (eBin gIx (eBin gIx (eV 1) (eC (.int 1))) (eV 14)))) (eC (.int 1)))) (eC (.int 0)))))
    (sSeq (sIf (tNotM (tOf (eCall m__law_bool (aCons (eCall m_is_homes (aCons (eV 1) (aCons (eV 8) aNil))) (aCons (eV 9) aNil))))) (sRet (eC (.bl false))) sNil)
    (sSeq (sSet 10 (eC (.bl true)))
    (sSeq (sFor (iRange1 (eBin gIx (eV 1) (eC (.int 0)))) (tgName 11) (sSeq (sSet 12 (eUn opLen (eLc (iSeq (eBin gIx (eV 1) (eC (.int 1)))) [13] (tgName 13) (tOf (eBin (g2 opIn) (eV 11) (eV 13))) (eC (.int 1)))))
    (sSet 10 (eAnd (eV 10) (eBin (g2 opLt) (eUn opAbs (eBin (g2 opSub) (eBin (g2 opMulA) (eC (.int 2)) (eUn opLen (eLc (iSeq (eV 8)) [7] (tgName 7) (tOf (eBin (g2 opEqA) (eV 7) (eV 11))) (eC (.int 1))))) (eV 12))) (eC (.int 2)))))))
    (sIf (tAndM (tOf (eV 9)) (tNotM (tOf (eCall m__law_bool (aCons (eCall m_is_fair (aCons (eV 1) (aCons (eV 8) aNil))) (aCons (eV 10) aNil)))))) (sRet (eC (.bl false))) sNil))))))
    (sRet (eC (.bl true)))) = T
  simp_arith
  refine W.step (fair_homes_spec hl hn hn1 hg) ?_
  rintro _ ⟨homes, hh, rfl⟩
  simp_arith [opSl_p, one_p, opAdd_pp homes [0] (by simp; omega)]
  rw [show eLc (iSeq (eBin gIx (eV 1) (eC (.int 1)))) [13] (tgName 13) tTrue (eBin gIx (eV 13) (eCall m__law_take (aCons (eV 0) (aCons (eC (.int 2)) aNil)))) = fun ρ m => (iSeq (eBin gIx (eV 1) (eC (.int 1))) ρ m).bind fun p => (lcLoop (tgName 13) tTrue (eBin gIx (eV 13) (eCall m__law_take (aCons (eV 0) (aCons (eC (.int 2)) aNil)))) (wipeE ρ [13]) p.1 p.2).bind fun r => if r.1.length ≤ big then some (.d (.lst r.1), r.2) else none from rfl]
  simp_arith
  refine W.lc (ys := ms) (k := pairD) (fun i ds m => ∃ (xs : List Int) (c' : Int), ds = xs.map .int ∧ m = [ck c'] ∧ xs.length = i ∧ c' = c + i) ⟨[], c, rfl, rfl, rfl, by simp⟩ ?_ ?_
  · rintro i y hy ds m ⟨xs, c', rfl, rfl, hx, hc⟩
    have hi := (List.getElem?_eq_some_iff.mp hy).1
    refine ⟨_, rfl, ?_⟩
    simp_arith
    refine ⟨fun _ => ?_, fun z => z.elim⟩
    refine W.step (take_spec (by omega) (by omega) (by omega)) ?_
    rintro _ ⟨v, v0, v1, rfl⟩
    simp_arith
    have hv : v = 0 ∨ v = 1 := by omega
    rcases hv with rfl | rfl
    · simp_arith [opIx_pair0]
      exact ⟨xs ++ [y.1], _, by rw [List.map_append]; rfl, rfl, by simp; omega, by omega⟩
    · simp_arith [opIx_pair1]
      exact ⟨xs ++ [y.2], _, by rw [List.map_append]; rfl, rfl, by simp; omega, by omega⟩
  · rintro ds m ⟨xs, c', rfl, rfl, hx, hc⟩
    simp_arith
    refine W.pos (by rw [hx]; unfold big; omega) ?_
    simp_arith [opTuple_li, tup_p]
    rw [eLc_all (ys := ms) (k := pairD) (fun q => .int q.1) (ms_items rfl) (by omega)]
    · rw [show ms.map (fun q => D.int q.1) = (ms.map fun q => q.1).map D.int by rw [List.map_map]; rfl]
      simp_arith [opTuple_li, tup_p, opLen_p]
      have tail : ∀ (rows : List (List Int)) (x4 x5 x6 x7 : Option E) (c2 : Int), c ≤ c2 → c2 ≤ c + 150 → (∀ r ∈ rows, r.length ≤ ms.length + 1) → W (T [some (dl row t), some (.d (webD n ms)), some (.d (planD homes)), some (.own 1), x4, x5, x6, x7, none, none, none, none, none, none, none] [ck c2, .lst (rows.map planD)]) fun r => r.1 = .rt (.d (.bl true)) ∧ ∃ x, r.2.2 = [ck c2, x] := fun rows x4 x5 x6 x7 c2 hc0 hc1 hr => by
        rw [← hT]
        simp_arith
        refine W.loopE planD rows (by rfl) (fun i ρ m => m = [ck c2, .frz (.lst (rows.map planD))] ∧ ∃ x4 x5 x6 x7 x8 x9 x10 x11 x12, ρ = [some (dl row t), some (.d (webD n ms)), some (.d (planD homes)), some (.own 1), x4, x5, x6, x7, x8, x9, x10, x11, x12, none, none]) ⟨rfl, _, _, _, _, _, _, _, _, _, rfl⟩ ?_ ?_
        · rintro i r hi ρ m ⟨rfl, x4, x5, x6, x7, x8, x9, x10, x11, x12, rfl⟩
          have hrl := hr r (List.mem_of_getElem? hi)
          refine ⟨_, rfl, ?_⟩
          have due : ∀ {ρ : Rho} {m : Store}, ρ[1]? = some (some (.d (webD n ms))) → ρ[8]? = some (some (.d (planD r))) → ρ.length = 15 → (eAnd (eBin (g2 opEqA) (eUn opLen (eV 8)) (eUn opLen (eBin gIx (eV 1) (eC (.int 1))))) (eBin (g2 opEqA) (eUn opLen (eLc (iRange1 (eUn opLen (eV 8))) [14] (tgName 14) (tOf (eBin (g2 opNotIn) (eBin gIx (eV 8) (eV 14)) (eBin gIx (eBin gIx (eV 1) (eC (.int 1))) (eV 14)))) (eC (.int 1)))) (eC (.int 0)))) ρ m = some (.d (.bl (tr (Homes ms r))), m) := fun {ρ m} g1 g8 gl => by
            simp_arith [g1, g8, opLen_p]
            by_cases e1 : (r.length : Int) = ms.length
            · rw [decide_eq_true e1]
              simp_arith
              have e1 : r.length = ms.length := by omega
              rw [eLc_map (ys := List.range r.length) (k := fun (i : Nat) => D.int (i : Int)) (fun i => !decide (r.getD i 0 = (pr ms i).1 ∨ r.getD i 0 = (pr ms i).2)) (fun _ => .int 1) (rng (by simp_arith [g8, opLen_p]) (by omega)) (by simp; omega)]
              · simp_arith
                have e : decide ((((List.range r.length).filter fun i => !decide (r.getD i 0 = (pr ms i).1 ∨ r.getD i 0 = (pr ms i).2)).length : Int) = 0) = tr (Homes ms r) := by
                  rw [decide_tr]
                  refine tr_congr ⟨fun h => ⟨e1, fun i hi => ?_⟩, fun h => ?_⟩
                  · have := filter_none.mp (by omega : ((List.range r.length).filter fun i => !decide (r.getD i 0 = (pr ms i).1 ∨ r.getD i 0 = (pr ms i).2)).length = 0) i (List.mem_range.mpr (by omega))
                    exact notDec this
                  · have : ((List.range r.length).filter fun i => !decide (r.getD i 0 = (pr ms i).1 ∨ r.getD i 0 = (pr ms i).2)).length = 0 := filter_none.mpr fun i hi => notDec' (h.2 i (by have := List.mem_range.mp hi; omega))
                    omega
                rw [e]
              · intro i hi
                have hi := List.mem_range.mp hi
                have w1 : ((wipeE ρ [14]).set 14 (some (.d (.int (i : Int)))))[1]? = some (some (.d (webD n ms))) := by
                  show ((ρ.set 14 none).set 14 _)[1]? = _
                  rw [List.getElem?_set_ne (by decide), List.getElem?_set_ne (by decide), g1]
                have w8 : ((wipeE ρ [14]).set 14 (some (.d (.int (i : Int)))))[8]? = some (some (.d (planD r))) := by
                  show ((ρ.set 14 none).set 14 _)[8]? = _
                  rw [List.getElem?_set_ne (by decide), List.getElem?_set_ne (by decide), g8]
                have w14 : ((wipeE ρ [14]).set 14 (some (.d (.int (i : Int)))))[14]? = some (some (.d (.int (i : Int)))) := by
                  show ((ρ.set 14 none).set 14 _)[14]? = _
                  rw [List.getElem?_set_self (by rw [List.length_set]; omega)]
                refine ⟨_, rfl, ?_, fun _ => by simp_arith⟩
                generalize ((wipeE ρ [14]).set 14 (some (.d (.int (i : Int))))) = ρ2 at w1 w8 w14 ⊢
                simp_arith [w1, w8, w14, opIx_p r i (by omega) (by omega), opIx_ms ms i (by omega) (by omega)]
            · rw [decide_eq_false e1]
              simp_arith
              rw [tr_false fun z => e1 (by rw [z.1])]
          rw [show ∀ (f g : Sx) (ρ : Rho) (m : Store), sSeq f g ρ m = (f ρ m).bind fun r => match r.1 with | .nx => g r.2.1 r.2.2 | _ => some r from fun _ _ _ _ => rfl]
          rw [show ∀ (f : Ex) (g : Tg) (ρ : Rho) (m : Store), sAsg f g ρ m = (f ρ m).bind fun p => (g p.1 ρ).bind fun ρ' => some (.nx, ρ', p.2) from fun _ _ _ _ => rfl, due rfl rfl rfl]
          simp_arith [is_homes_eq n ms r [ck c2, O.frz (D.lst (rows.map planD))] (by omega) (by omega), law_bool_eq]
          refine W.rg ⟨by omega, by omega⟩ ?_
          simp_arith
          refine W.loop (fun i ρ m => m = [ck c2, .frz (.lst (rows.map planD))] ∧ ∃ x4 x5 x6 x7 x11 x12, ρ = [some (dl row t), some (.d (webD n ms)), some (.d (planD homes)), some (.own 1), x4, x5, x6, x7, some (.d (planD r)), some (.d (.bl (tr (Homes ms r)))), some (.d (.bl (tr (∀ p : Nat, p < i → absZ (2 * ((r.filter fun x => decide (x = (p : Int))).length : Int) - ((meets ms p).length : Int)) < 2)))), x11, x12, none, none]) ?_ ?_ ?_
          · rw [tr_true (fun p hp => absurd hp (by omega) : ∀ p : Nat, p < 0 → absZ (2 * ((r.filter fun x => decide (x = (p : Int))).length : Int) - ((meets ms p).length : Int)) < 2)]
            exact ⟨rfl, _, _, _, _, _, _, rfl⟩
          · rintro p y hy ρ m ⟨rfl, x4, x5, x6, x7, x11, x12, rfl⟩
            obtain ⟨hp, rfl⟩ := getElem?_range hy
            refine ⟨_, rfl, ?_⟩
            rw [tr_congr (p := ∀ p : Nat, p < y + 1 → absZ (2 * ((r.filter fun x => decide (x = (p : Int))).length : Int) - ((meets ms p).length : Int)) < 2) (q := (∀ p : Nat, p < y → absZ (2 * ((r.filter fun x => decide (x = (p : Int))).length : Int) - ((meets ms p).length : Int)) < 2) ∧ decide (absZ (2 * ((r.filter fun x => decide (x = (y : Int))).length : Int) - ((meets ms y).length : Int)) < 2) = true) ⟨fun z => ⟨fun p hp => z p (by omega), decide_eq_true (z y (by omega))⟩, fun z p hp => by
              by_cases q : p = y
              · rw [q]; exact of_decide_eq_true z.2
              · exact z.1 p (by omega)⟩]
            generalize (∀ p : Nat, p < y → absZ (2 * ((r.filter fun x => decide (x = (p : Int))).length : Int) - ((meets ms p).length : Int)) < 2) = P
            simp_arith
            rw [eLc_map (ys := ms) (k := pairD) (fun q => decide ((y : Int) = q.1 ∨ (y : Int) = q.2)) (fun _ => .int 1) (ms_items rfl) (by omega)]
            · simp_arith [← meets_count]
              by_cases hP : P
              · rw [tr_true hP]
                simp_arith
                rw [eLc_map (ys := r) (k := D.int) (fun x => decide (x = (y : Int))) (fun _ => .int 1) (tup_items rfl) (by omega)]
                · simp_arith [opMulA_l 2 _ (by decide), opAbs_i]
                  rw [tr_congr (p := P ∧ decide (absZ (2 * ((r.filter fun x => decide (x = (y : Int))).length : Int) - ((meets ms y).length : Int)) < 2) = true) (q := absZ (2 * ((r.filter fun x => decide (x = (y : Int))).length : Int) - ((meets ms y).length : Int)) < 2) ⟨fun z => of_decide_eq_true z.2, fun z => ⟨hP, decide_eq_true z⟩⟩, ← decide_tr (p := absZ (2 * ((r.filter fun x => decide (x = (y : Int))).length : Int) - ((meets ms y).length : Int)) < 2)]
                  exact ⟨goes_nx, by trivial, _, _, _, _, _, _, rfl⟩
                · intro x hx
                  exact ⟨_, rfl, by simp_arith, fun _ => by simp_arith⟩
              · rw [tr_false hP, tr_false (p := P ∧ decide (absZ (2 * ((r.filter fun x => decide (x = (y : Int))).length : Int) - ((meets ms y).length : Int)) < 2) = true) fun z => hP z.1]
                simp_arith
                exact ⟨goes_nx, by trivial, _, _, _, _, _, _, rfl⟩
            · intro q hq
              exact ⟨_, rfl, by simp_arith, fun _ => by simp_arith⟩
          · rintro ρ m ⟨rfl, x4, x5, x6, x7, x11, x12, rfl⟩
            rw [List.length_range]
            simp_arith
            by_cases hH : Homes ms r
            · rw [tr_true hH]
              simp_arith [is_fair_eq n ms r [ck c2, O.frz (D.lst (rows.map planD))] (by omega) hH.1 hn (by omega), law_bool_eq]
              have e : tr (Fair n ms r) = tr (∀ p : Nat, p < n.toNat → absZ (2 * ((r.filter fun x => decide (x = (p : Int))).length : Int) - ((meets ms p).length : Int)) < 2) := by
                refine tr_congr ⟨fun z p hp => ?_, fun z p hp => ?_⟩
                · have := z p hp
                  rw [atHome_len hH] at this
                  omega
                · have := z p hp
                  rw [atHome_len hH]
                  omega
              rw [e, decide_eq_true rfl]
              simp_arith
              exact ⟨goes_nx, by trivial, _, _, _, _, _, _, _, _, _, rfl⟩
            · rw [tr_false hH]
              simp_arith
              exact ⟨goes_nx, by trivial, _, _, _, _, _, _, _, _, _, rfl⟩
        · rintro ρ m ⟨rfl, x4, x5, x6, x7, x8, x9, x10, x11, x12, rfl⟩
          simp_arith
          exact ⟨by trivial, _, rfl⟩
      by_cases e0 : (0 : Int) < homes.length
      · rw [decide_eq_true e0]
        simp_arith [opLen_p]
        refine W.step (take_spec e0 (by omega) (by omega)) ?_
        rintro _ ⟨v, v0, v1, rfl⟩
        have hgp := hg _ (pr_mem (ms := ms) (i := v.toNat) (by omega))
        simp_arith [opIx_ms ms v v0 (by omega), opIx_p homes v v0 v1]
        refine W.pos (by omega) ?_
        simp_arith
        have hput : ∀ (x : Int), opAdd (planD (cutD homes none (some v))) (planD [x]) = some (planD (cutD homes none (some v) ++ [x])) := fun x => opAdd_pp _ _ (by have := cutD_len homes none (some v); simp; omega)
        have hput2 : ∀ (x : Int), opAdd (planD (cutD homes none (some v) ++ [x])) (planD (cutD homes (some (v + 1)) none)) = some (planD (cutD homes none (some v) ++ [x] ++ cutD homes (some (v + 1)) none)) := fun x => opAdd_pp _ _ (by have := cutD_len homes none (some v); have := cutD_len homes (some (v + 1)) none; simp; omega)
        refine W.loopE D.int [(pr ms v.toNat).1 + (pr ms v.toNat).2 - homes.getD v.toNat 0, n, -1, (homes.getD v.toNat 0 + 1) % n] (by rfl) (fun i ρ m => ∃ x7, ∃ rows : List (List Int), ρ = [some (dl row t), some (.d (webD n ms)), some (.d (planD homes)), some (.own 1), some (.d (.int v)), some (.d (.int (pr ms v.toNat).1)), some (.d (.int (pr ms v.toNat).2)), x7, none, none, none, none, none, none, none] ∧ m = [ck (c' + 1), .lst (rows.map planD)] ∧ (∀ w ∈ rows, w.length ≤ ms.length + 1) ∧ rows.length = 5 + i) ?_ ?_ ?_
        · refine ⟨_, [homes, cutD homes (some 1) none, homes ++ [0], xs, ms.map fun q => q.1], rfl, rfl, ?_, rfl⟩
          intro w hw
          have := cutD_len homes (some 1) none
          simp only [List.mem_cons, List.not_mem_nil, or_false] at hw
          rcases hw with rfl | rfl | rfl | rfl | rfl <;> (try simp) <;> omega
        · rintro i y hy ρ m ⟨x7, rows, rfl, rfl, hw, hwl⟩
          have hi := (List.getElem?_eq_some_iff.mp hy).1
          simp only [List.length_cons, List.length_nil] at hi
          refine ⟨_, rfl, ?_⟩
          simp_arith [opSl_p, one_p, hput, hput2]
          rw [if_pos (by unfold big; omega)]
          simp_arith
          refine ⟨goes_nx, _, rows ++ [cutD homes none (some v) ++ [y] ++ cutD homes (some (v + 1)) none], rfl, by rw [List.map_append]; rfl, fun w hw2 => ?_, by simp; omega⟩
          rcases List.mem_append.mp hw2 with hw2 | hw2
          · exact hw w hw2
          · rw [List.mem_singleton.mp hw2]; rw [← hh]; exact put_len homes v y v0
        · rintro ρ m ⟨x7, rows, rfl, rfl, hw, hwl⟩
          simp_arith
          refine W.step (tail rows _ _ _ _ (c' + 1) (by omega) (by omega) hw) ?_
          rintro ⟨fl, ρ, m⟩ ⟨rfl, x, rfl⟩
          simp_arith
          exact ⟨c' + 1, by omega, by omega, rfl⟩
      · rw [decide_eq_false e0]
        simp_arith
        refine W.step (tail [homes, cutD homes (some 1) none, homes ++ [0], xs, ms.map fun q => q.1] _ _ _ _ c' (by omega) (by omega) ?_) ?_
        · intro w hw
          have := cutD_len homes (some 1) none
          simp only [List.mem_cons, List.not_mem_nil, or_false] at hw
          rcases hw with rfl | rfl | rfl | rfl | rfl <;> (try simp) <;> omega
        · rintro ⟨fl, ρ, m⟩ ⟨rfl, x, rfl⟩
          simp_arith
          exact ⟨c', by omega, by omega, rfl⟩
    · intro q hq
      refine ⟨_, rfl, ?_⟩
      simp_arith [opIx_pair0]
end Lw
namespace Lw
open PySem PySem.Spec L2 PL
set_option autoImplicit false
local macro_rules | `(tactic| simp_arith [$ls,*]) => `(tactic| try simp (maxSteps := 2000000) only [eV, eC, eBin, g2, eUn, eBi, eCall, aNil, aCons, sSeq, sRet, sIf, sSet, sAsg, sExp, tgName, tgTup_pair, sNil, eIf, tAndM, tOrM, tNotM, eAnd, eOr, eNot, tTrue, sFor, iRange1_bind, iSeq, eSl, oNone, oSome, opNeg_i, opSl_l, opSl_t, tOf_eq, look_d, frzE_d, frzAll, eLst, eTup, eLstO, eApp, sPutL, cellL, look, frzE, gIx_d, gIx_own, gIx_deal, dealAt, intOf, opAdd_i, opI_i, opEqA_i, opNeA_i, opEqA_b, opLen_l, opLen_t, opLen_s, opLen_d, itemsOf_l, itemsOf_t, opTuple_l, opTuple_t, opList_l, opList_t, opIx_web0, opIx_web1, opIx_ck, opIn_pair, opNotIn_pair, wipeE, fin, ck, 
  Option.bind_some, Option.bind_none, Option.bind_assoc, W_some, List.map_cons, List.map_nil, List.replicate, List.cons_append, List.nil_append, List.getElem?_cons_zero, List.getElem?_cons_succ, List.set_cons_zero, List.set_cons_succ, List.length_cons, List.length_nil, List.take_succ_cons, List.take_zero, List.take_nil, List.take_length, List.length_append, Nat.zero_add, Nat.lt_irrefl, Option.map_some, List.length_map, Int.toNat_natCast, if_true, if_false, Bool.false_eq_true, Bool.not_true, Bool.not_false, decide_true, decide_false, reduceCtorEq, lb0, lb1, lb2, lb3, lb4, lb5, lb6, lb7, lb8, $ls,*])
local macro_rules | `(tactic| simp_arith) => `(tactic| simp_arith [Option.bind_some])
/-! ### the deal -/
theorem opIx_scr (ns : List Int) (i : Int) (h0 : 0 ≤ i) (h : i < ns.length) : opIx (.scr ns) (.int i) = some (.int (ns.getD i.toNat 0)) := by
  show (atI ns i).map D.int = _
  have := atI_map' id ns 0 i h0 h
  rw [List.map_id] at this
  rw [this]
  rfl
theorem intsOf_l (xs : List Int) : intsOf (xs.map .int) = some xs := intsOf_map xs
theorem deal_spec (ns : List Int) (hn : ns.length ≤ 63) : W (m__law_deal [.d (.scr ns)] []) fun p => ∃ row t, p = (dl row t, [ck 0]) := by
  unfold m__law_deal
  rw [fnD_eq 1 5 b__law_deal _ _ rfl]
  unfold b__law_deal
  simp_arith [eDeal]
  have hmin : (if (63 : Int) < (ns.length : Int) then (63 : Int) else (ns.length : Int)) = ns.length := if_neg (by omega)
  rw [hmin]
  refine W.rg ⟨by omega, by omega⟩ ?_
  simp_arith
  refine W.loop (fun i ρ m => ∃ (out : List Int) (x2 x3 x4 : Option E), m = [.lst (out.map .int)] ∧ out.length ≤ 40 * i ∧ ρ = [some (.d (.scr ns)), some (.own 0), x2, x3, x4, none]) ⟨[], _, _, _, rfl, by simp, rfl⟩ ?_ ?_
  · rintro i y hy ρ m ⟨out, x2, x3, x4, rfl, ho, rfl⟩
    obtain ⟨hi, rfl⟩ := getElem?_range hy
    refine ⟨_, rfl, ?_⟩
    simp_arith [opIx_scr ns y (by omega) (by omega), opInt, opAbs_i]
    refine W.pos (okP_true ⟨⟨by omega, by omega⟩, by decide⟩) ?_
    rw [show (10 : Int) ^ (Int.toNat 18) = 1000000000000000000 by decide]
    simp_arith
    generalize absZ (ns.getD y 0) = a
    by_cases ha : (1000000000000000000 : Int) ≤ a
    · rw [decide_eq_true ha]
      simp_arith
      refine W.rg ⟨by omega, by omega⟩ ?_
      simp_arith
      refine W.bnd (W.loop (fun j ρ m => ∃ (out2 : List Int) (v : Int) (x4 : Option E), m = [.lst (out2.map .int)] ∧ out2.length ≤ out.length + j ∧ ρ = [some (.d (.scr ns)), some (.own 0), some (.d (.int (y : Int))), some (.d (.int v)), x4, none]) ⟨out, _, _, rfl, by simp, rfl⟩ ?_ ?_)
      · rintro j z hz ρ m ⟨out2, v, x4, rfl, ho2, rfl⟩
        obtain ⟨hj, rfl⟩ := getElem?_range hz
        have hj : z < 40 := hj
        refine ⟨_, rfl, ?_⟩
        simp_arith
        by_cases hv : 0 < v
        · rw [decide_eq_true hv]
          simp_arith
          refine W.pos (by decide) ?_
          simp_arith
          rw [if_pos (by unfold big; omega)]
          simp_arith
          refine W.pos (by decide) ?_
          simp_arith
          exact ⟨goes_nx, out2 ++ [v % 1009], _, _, by rw [List.map_append]; rfl, by simp; omega, rfl⟩
        · rw [decide_eq_false hv]
          simp_arith
          exact ⟨goes_nx, out2, _, _, rfl, by omega, rfl⟩
      · rintro ρ m ⟨out2, v, x4, rfl, ho2, rfl⟩
        simp_arith
        have ho2 : out2.length ≤ out.length + 40 := Nat.le_trans ho2 (by simp)
        exact ⟨goes_nx, out2, _, _, _, rfl, by omega, rfl⟩
    · rw [decide_eq_false ha]
      simp_arith
      refine W.pos (by decide) ?_
      simp_arith [opMulA_r _ 48271 (by decide), opMulA_r _ 69621 (by decide)]
      refine W.rg ⟨by omega, by omega⟩ ?_
      simp_arith
      refine W.bnd (W.loop (fun j ρ m => ∃ (out2 : List Int) (v : Int) (x4 : Option E), m = [.lst (out2.map .int)] ∧ out2.length ≤ out.length + j ∧ ρ = [some (.d (.scr ns)), some (.own 0), some (.d (.int (y : Int))), some (.d (.int v)), x4, none]) ⟨out, _, _, rfl, by simp, rfl⟩ ?_ ?_)
      · rintro j z hz ρ m ⟨out2, v, x4, rfl, ho2, rfl⟩
        obtain ⟨hj, rfl⟩ := getElem?_range hz
        have hj : z < 5 := hj
        refine ⟨_, rfl, ?_⟩
        simp_arith [opMulA_r _ 16807 (by decide)]
        refine W.pos (by decide) ?_
        simp_arith
        refine W.pos (by decide) ?_
        simp_arith
        refine W.pos (by decide) ?_
        simp_arith
        rw [if_pos (by unfold big; omega)]
        simp_arith
        exact ⟨goes_nx, out2 ++ [_], _, _, by rw [List.map_append]; rfl, by simp; omega, rfl⟩
      · rintro ρ m ⟨out2, v, x4, rfl, ho2, rfl⟩
        simp_arith
        have ho2 : out2.length ≤ out.length + 5 := Nat.le_trans ho2 (by simp)
        exact ⟨goes_nx, out2, _, _, _, rfl, by omega, rfl⟩
  · rintro ρ m ⟨out, x2, x3, x4, rfl, ho, rfl⟩
    simp_arith [opSum, intsOf_l]
    rw [if_neg (by decide)]
    exact W_some.mpr ⟨out, _, rfl⟩
/-! ### the law -/
theorem pys_pairs : ∀ xs : Ms, ∃ ps, pys (xs.map pairD) = some ps
  | [] => ⟨[], by simp [pys]⟩
  | x :: xs => by
    obtain ⟨ps, h⟩ := pys_pairs xs
    exact ⟨.tuple [.int x.1, .int x.2] :: ps, by simp [pys, py, pairD, h]⟩
theorem depDs_pairs : ∀ xs : Ms, depDs (xs.map pairD) ≤ 1
  | [] => by simp [depDs]
  | x :: xs => by
    have := depDs_pairs xs
    simp [depDs, depD, pairD]
    omega
theorem opIn_pairs (p : Int × Int) (qs : Ms) : opIn (pairD p) (.tup (qs.map pairD)) = some (.bl (decide (pairD p ∈ qs.map pairD))) := by
  unfold opIn inD
  obtain ⟨ps, h⟩ := pys_pairs qs
  have h2 := depDs_pairs qs
  have h3 : depD (pairD p) = 1 := by simp [depD, depDs, pairD]
  have h4 : py (pairD p) = some (.tuple [.int p.1, .int p.2]) := by simp [py, pys, pairD]
  have h5 : py (.tup (qs.map pairD)) = some (.tuple ps) := by simp [py, h]
  show Option.map _ ((some (qs.map pairD)).bind _) = _
  rw [Option.bind_some, h4, h5, h3]
  show Option.map _ (if 1 ≤ 64 ∧ depD (.tup (qs.map pairD)) ≤ 64 then _ else _) = _
  rw [if_pos ⟨by decide, by simp [depD]; omega⟩]
  rfl
theorem gload_bounds (n : Int) (ms : Ms) : 0 ≤ gload n ms ∧ gload n ms ≤ ms.length := by
  obtain ⟨h1, h2⟩ := maxZ_spec (xs := 0 :: loads n ms) (by simp)
  refine ⟨h2 0 List.mem_cons_self, ?_⟩
  unfold gload
  rcases List.mem_cons.mp h1 with h | h
  · omega
  · unfold loads at h
    obtain ⟨p, _, e⟩ := List.mem_map.mp h
    have := meets_len ms p
    unfold loads
    omega
theorem pure_law (ns : List Int) (hns : ns.length ≤ 63) : ∃ m', m_law [.d (.scr ns)] [] = some (.d (.bl true), m') := by
  suffices h : W (m_law [.d (.scr ns)] []) fun p => p.1 = .d (.bl true) by
    obtain ⟨⟨e, m'⟩, h1, h2⟩ := h
    have h2 : e = _ := h2
    rw [h2] at h1
    exact ⟨m', h1⟩
  unfold m_law
  rw [fnD_eq 1 10 b_law _ _ rfl]
  unfold b_law
  simp_arith
  refine W.step (deal_spec ns hns) ?_
  rintro _ ⟨row, t, rfl⟩
  simp_arith
  refine W.step (web_spec (by omega) (by omega) (by omega) (by omega)) ?_
  rintro _ ⟨n, ms, c, hw, hc0, hc1, rfl⟩
  obtain ⟨hn0, hn1, hml, hg⟩ := hw
  have hgl := gload_bounds n ms
  simp_arith [law_load_eq n ms _ (by omega) hn0 (by omega), opMulA_l 2 _ (by decide)]
  refine W.step (take_spec (by omega) (by omega) (by omega)) ?_
  rintro _ ⟨v, v0, v1, rfl⟩
  simp_arith
  have hk : ∃ k : Int, (if 2 * gload n ms - 1 + v > 1 then 2 * gload n ms - 1 + v else 1) = k ∧ 1 ≤ k ∧ k ≤ 100 ∧ 2 * gload n ms - 1 ≤ k := by
    by_cases q : 2 * gload n ms - 1 + v > 1
    · exact ⟨_, if_pos q, by omega, by omega, by omega⟩
    · exact ⟨_, if_neg q, by omega, by omega, by omega⟩
  obtain ⟨k, ek, hk1, hk2, hk3⟩ := hk
  rw [ek]
  refine W.step (laid_spec (by omega) (by omega) (by omega) hg hk1 (by omega) hk3) ?_
  rintro _ ⟨plan, c2, hpl, hd0, hd1, rfl⟩
  simp_arith
  rw [eLc_map (ys := List.range ms.length) (k := fun (i : Nat) => D.int (i : Int)) (fun (i : Nat) => decide (pairD (pr ms i) ∈ (cutD ms none (some (i : Int))).map pairD)) (fun _ => .int 1) (rng (by simp_arith) (by omega)) (by simp; omega)]
  · simp_arith
    generalize decide ((((List.range ms.length).filter fun (i : Nat) => decide (pairD (pr ms i) ∈ (cutD ms none (some (i : Int))).map pairD)).length : Int) = 0) = plain
    refine W.step (changed_spec (by omega) (by omega) (by omega) hpl hk1) ?_
    rintro _ ⟨ways, c3, hw, hwl, he0, he1, rfl⟩
    simp_arith
    refine W.loop (fun i ρ m => m = [ck c3] ∧ ∃ x7 x8 x9, ρ = [some (.d (.scr ns)), some (dl row t), some (.d (webD n ms)), some (.d (.int (gload n ms))), some (.d (.int k)), some (.d (planD plan)), some (.d (.bl plain)), x7, x8, x9, none]) ⟨rfl, _, _, _, rfl⟩ ?_ ?_
    · rintro i w hi ρ m ⟨rfl, x7, x8, x9, rfl⟩
      have hwl := hw w (List.mem_of_getElem? hi)
      refine ⟨_, rfl, ?_⟩
      simp_arith [show opList (planD w) = some (.lst (w.map .int)) from rfl]
      rw [opAdd_ll _ _ (by simp; omega), show [D.int 0] ++ w.map D.int = (0 :: w).map D.int from rfl]
      simp_arith [opMax_eq (0 :: w) (by simp)]
      rw [show (D.int 0 :: w.map D.int) = (0 :: w).map D.int from rfl, opMax_eq (0 :: w) (by simp)]
      simp_arith
      refine W.loopE D.int [k, maxZ (0 :: w), maxZ (0 :: w) + 1, gload n ms] (by rfl) (fun i ρ m => m = [ck c3] ∧ ∃ x9, ρ = [some (.d (.scr ns)), some (dl row t), some (.d (webD n ms)), some (.d (.int (gload n ms))), some (.d (.int k)), some (.d (planD plan)), some (.d (.bl plain)), some (.d (planD w)), some (.d (.int (maxZ (0 :: w)))), x9, none]) ⟨rfl, _, rfl⟩ ?_ ?_
      · rintro j q hq ρ m ⟨rfl, x9, rfl⟩
        refine ⟨_, rfl, ?_⟩
        simp_arith [is_right_eq n ms w q [ck c3] (by omega) (by omega), law_is_right_eq n ms w q [ck c3] (by omega) (by omega), law_bool_eq]
        exact ⟨goes_nx, by trivial, _, rfl⟩
      · rintro ρ m ⟨rfl, x9, rfl⟩
        simp_arith [law_rooms_eq n ms w k [ck c3] (by omega) (by omega) hk1 (by omega)]
        cases plain with
        | false =>
          simp_arith
          exact ⟨goes_nx, by trivial, _, _, _, rfl⟩
        | true =>
          simp_arith [shows_class_1 n ms w [ck c3] (by omega) (by omega) hn0 (by omega), law_is_right_eq n ms w (gload n ms) [ck c3] (by omega) (by omega), law_bool_eq]
          exact ⟨goes_nx, by trivial, _, _, _, rfl⟩
    · rintro ρ m ⟨rfl, x7, x8, x9, rfl⟩
      simp_arith
      refine W.step (law_even_spec (by omega) (by omega)) ?_
      rintro _ ⟨c4, hf0, hf1, rfl⟩
      simp_arith
      refine W.step (law_weeks_spec (by omega) (by omega) (by omega) hpl hn0 (by omega) hk1 (by omega)) ?_
      rintro _ ⟨c5, hf2, hf3, rfl⟩
      simp_arith
      refine W.step (law_stretches_spec (by omega) (by omega) (by omega) hpl hn0 (by omega)) ?_
      rintro _ ⟨c6, hf4, hf5, rfl⟩
      simp_arith
      refine W.step (law_homes_spec (by omega) (by omega) (by omega) hn0 (by omega) hg) ?_
      rintro _ ⟨c7, hf6, hf7, rfl⟩
      simp_arith
  · intro i hi
    have hi := List.mem_range.mp hi
    refine ⟨_, rfl, ?_, fun _ => by simp_arith⟩
    simp_arith [opIx_ms ms i (by omega) (by omega), cutD_map, opIn_pairs]
end Lw
namespace Lw
open PySem PySem.Spec L2 PL
set_option autoImplicit false
def topS (i : Nat) : Stmt := PySem.Challenge.pw_meetingdays_k34_judges_of_days.main.body.getD i (.Pass ⟨0, 0, 0, 0⟩)
structure Tops (K : PySem.W.Frag) (mg : Str → Option Value) : Prop where
  z_abs : mg "abs" = none
  z_bool : mg "bool" = none
  z_int : mg "int" = none
  z_isinstance : mg "isinstance" = none
  z_len : mg "len" = none
  z_list : mg "list" = none
  z_max : mg "max" = none
  z_min : mg "min" = none
  z_range : mg "range" = none
  z_set : mg "set" = none
  z_str : mg "str" = none
  z_sum : mg "sum" = none
  z_tuple : mg "tuple" = none
section
variable {P : Program} {w : World} {K : PySem.W.Frag} {mg : Str → Option Value} {base : Heap}
abbrev s_clashing : Stmt := topS 5
abbrev s_days_left : Stmt := topS 13
abbrev s_days_to_try : Stmt := topS 14
abbrev s_with_day : Stmt := topS 15
abbrev s_shows_here : Stmt := topS 16
abbrev s_shows_tries : Stmt := topS 17
abbrev s_meetings_of : Stmt := topS 1
theorem sc_meetings_of : FnScope ["web", "person", "i"] ["web", "person"] (defScope s_meetings_of) := ⟨rfl, rfl, rfl, by decide +kernel, rfl, by decide +kernel, by decide +kernel⟩
theorem ok_meetings_of {a : Addr} {fd : FuncData} (T : Tops K mg) (Z : At K mg "meetings_of" ["web", "person"] s_meetings_of a fd) : Fn P w K mg base 1 "meetings_of" 2 m_meetings_of := by
  refine fn_at (lev := 0) (n := 2) (k := 1) (body := b_meetings_of) Z sc_meetings_of rfl rfl ?_
  intro cdv A outer s H E hr
  exact (r_one (r_ret (r_lc (own := [("i", 2)]) rfl sc_meetings_of.nd (r_range1 (by rfl) T.z_range (q_len T.z_len (q_ix (r_var (pv 0)) r_int))) (blkOk_by (by kernel_rfl)) (tgOk_name (i := 2) (vs := [2]) (by decide)) (fun _ _ _ _ _ => (pg_name (i := 2) sc_meetings_of.nd rfl (by first | exact Or.inl rfl | exact Or.inr rfl))) (fun _ _ _ _ _ => (r_ifs1 (q_cmpT (c_in (u65 hr)) (r_var (pv 1)) (q_ix (q_ix (r_var (pv 0)) r_int) (r_var (pv 2)))))) (fun _ _ _ _ _ => (r_var (pv 2))))))
abbrev s_load : Stmt := topS 2
theorem sc_load : FnScope ["web", "person"] ["web", "person"] (defScope s_load) := ⟨rfl, rfl, rfl, by decide +kernel, rfl, by decide +kernel, by decide +kernel⟩
theorem ok_load {a : Addr} {fd : FuncData} (T : Tops K mg) (Z : At K mg "load" ["web", "person"] s_load a fd) (G_meetings_of : Fn P w K mg base 1 "meetings_of" 2 m_meetings_of) : Fn P w K mg base 2 "load" 2 m_load := by
  refine fn_at (lev := 1) (n := 2) (k := 0) (body := b_load) Z sc_load rfl rfl ?_
  intro cdv A outer s H E hr
  exact (r_one (r_ret (q_len T.z_len (r_call (G_meetings_of.mono (by omega)) hr (by rfl) (aCons_len (aCons_len aNil_len)) (r_acons (r_var (pv 0)) (r_acons (r_var (pv 1)) r_anil))))))
abbrev s_greatest_load : Stmt := topS 3
theorem sc_greatest_load : FnScope ["web", "person"] ["web"] (defScope s_greatest_load) := ⟨rfl, rfl, rfl, by decide +kernel, rfl, by decide +kernel, by decide +kernel⟩
theorem ok_greatest_load {a : Addr} {fd : FuncData} (T : Tops K mg) (Z : At K mg "greatest_load" ["web"] s_greatest_load a fd) (G_load : Fn P w K mg base 2 "load" 2 m_load) : Fn P w K mg base 3 "greatest_load" 1 m_greatest_load := by
  refine fn_at (lev := 2) (n := 1) (k := 1) (body := b_greatest_load) Z sc_greatest_load rfl rfl ?_
  intro cdv A outer s H E hr
  exact (r_one (r_ret (q_max rfl T.z_max (q_add (r_lst (r_acons r_int r_anil)) (r_lc (own := [("person", 1)]) rfl sc_greatest_load.nd (r_range1 (by rfl) T.z_range (q_ix (r_var (pv 0)) r_int)) (blkOk_by (by kernel_rfl)) (tgOk_name (i := 1) (vs := [1]) (by decide)) (fun _ _ _ _ _ => (pg_name (i := 1) sc_greatest_load.nd rfl (by first | exact Or.inl rfl | exact Or.inr rfl))) (fun _ _ _ _ _ => r_ifs0) (fun _ _ _ _ _ => (r_call (G_load.mono (by omega)) hr (by rfl) (aCons_len (aCons_len aNil_len)) (r_acons (r_var (pv 0)) (r_acons (r_var (pv 1)) r_anil)))))))))
abbrev s_clash : Stmt := topS 4
theorem sc_clash : FnScope ["web", "i", "j", "a", "b"] ["web", "i", "j"] (defScope s_clash) := ⟨rfl, rfl, rfl, by decide +kernel, rfl, by decide +kernel, by decide +kernel⟩
theorem ok_clash {a : Addr} {fd : FuncData} (T : Tops K mg) (Z : At K mg "clash" ["web", "i", "j"] s_clash a fd) : Fn P w K mg base 1 "clash" 3 m_clash := by
  refine fn_at (lev := 0) (n := 3) (k := 2) (body := b_clash) Z sc_clash rfl rfl ?_
  intro cdv A outer s H E hr
  exact (r_cons (r_asgT (is := [3, 4]) rfl (q_ix (q_ix (r_var (pv 0)) r_int) (r_var (pv 1))) (pgs_cons (pg_name (i := 3) sc_clash.nd rfl (by first | exact Or.inl rfl | exact Or.inr rfl)) (pgs_cons (pg_name (i := 4) sc_clash.nd rfl (by first | exact Or.inl rfl | exact Or.inr rfl)) pgs_nil)))
    (r_one (r_ret (r_eor (q_cmp (c_in (u65 hr)) (r_var (pv 3)) (q_ix (q_ix (r_var (pv 0)) r_int) (r_var (pv 2)))) (r_eone (q_cmp (c_in (u65 hr)) (r_var (pv 4)) (q_ix (q_ix (r_var (pv 0)) r_int) (r_var (pv 2)))))))))
abbrev s_other_of : Stmt := topS 6
theorem sc_other_of : FnScope ["web", "i", "person", "a", "b"] ["web", "i", "person"] (defScope s_other_of) := ⟨rfl, rfl, rfl, by decide +kernel, rfl, by decide +kernel, by decide +kernel⟩
theorem ok_other_of {a : Addr} {fd : FuncData} (T : Tops K mg) (Z : At K mg "other_of" ["web", "i", "person"] s_other_of a fd) : Fn P w K mg base 1 "other_of" 3 m_other_of := by
  refine fn_at (lev := 0) (n := 3) (k := 2) (body := b_other_of) Z sc_other_of rfl rfl ?_
  intro cdv A outer s H E hr
  exact (r_cons (r_asgT (is := [3, 4]) rfl (q_ix (q_ix (r_var (pv 0)) r_int) (r_var (pv 1))) (pgs_cons (pg_name (i := 3) sc_other_of.nd rfl (by first | exact Or.inl rfl | exact Or.inr rfl)) (pgs_cons (pg_name (i := 4) sc_other_of.nd rfl (by first | exact Or.inl rfl | exact Or.inr rfl)) pgs_nil)))
    (r_one (r_ret (r_if (q_cmpT (c_eq (u64 hr)) (r_var (pv 2)) (r_var (pv 3))) (r_var (pv 4)) (r_var (pv 3))))))
abbrev s_is_right : Stmt := topS 8
theorem sc_is_right : FnScope ["web", "plan", "k", "i", "j", "day"] ["web", "plan", "k"] (defScope s_is_right) := ⟨rfl, rfl, rfl, by decide +kernel, rfl, by decide +kernel, by decide +kernel⟩
theorem ok_is_right {a : Addr} {fd : FuncData} (T : Tops K mg) (Z : At K mg "is_right" ["web", "plan", "k"] s_is_right a fd) (G_clash : Fn P w K mg base 1 "clash" 3 m_clash) : Fn P w K mg base 2 "is_right" 3 m_is_right := by
  refine fn_at (lev := 1) (n := 3) (k := 3) (body := b_is_right) Z sc_is_right rfl rfl ?_
  intro cdv A outer s H E hr
  exact (r_cons (r_ifS (r_or (q_cmpT (c_ne (u64 hr)) (q_len T.z_len (r_var (pv 1))) (q_len T.z_len (q_ix (r_var (pv 0)) r_int))) (r_or1 (q_cmpT c_gt (q_len T.z_len (r_lc (own := [("day", 5)]) rfl sc_is_right.nd (r_iter (r_var (pv 1))) (blkOk_by (by kernel_rfl)) (tgOk_name (i := 5) (vs := [5]) (by decide)) (fun _ _ _ _ _ => (pg_name (i := 5) sc_is_right.nd rfl (by first | exact Or.inl rfl | exact Or.inr rfl))) (fun _ _ _ _ _ => (r_ifs1 (r_not (q_chainT c_le c_lt r_int (r_var (pv 5)) (r_var (pv 2)))))) (fun _ _ _ _ _ => r_int))) r_int))).pt (r_one (r_ret r_bl)) r_nil)
    (r_cons (r_for PassesOwn.never rfl (r_range1 (by rfl) T.z_range (q_len T.z_len (r_var (pv 1)))) (pg_name (i := 3) sc_is_right.nd rfl (by first | exact Or.inl rfl | exact Or.inr rfl)) (tgOk_name (i := 3) (vs := [3]) (by decide)) (r_one (r_for PassesOwn.never rfl (r_range1 (by rfl) T.z_range (r_var (pv 3))) (pg_name (i := 4) sc_is_right.nd rfl (by first | exact Or.inl rfl | exact Or.inr rfl)) (tgOk_name (i := 4) (vs := [4]) (by decide)) (r_one (r_ifS (r_and (q_cmpT (c_eq (u64 hr)) (q_ix (r_var (pv 1)) (r_var (pv 3))) (q_ix (r_var (pv 1)) (r_var (pv 4)))) (r_and1 (r_val (r_call (G_clash.mono (by omega)) hr (by rfl) (aCons_len (aCons_len (aCons_len aNil_len))) (r_acons (r_var (pv 0)) (r_acons (r_var (pv 3)) (r_acons (r_var (pv 4)) r_anil))))))).pt (r_one (r_ret r_bl)) r_nil)))))
    (r_one (r_ret r_bl))))
abbrev s_day_counts : Stmt := topS 9
theorem sc_day_counts : FnScope ["plan", "k", "other", "day"] ["plan", "k"] (defScope s_day_counts) := ⟨rfl, rfl, rfl, by decide +kernel, rfl, by decide +kernel, by decide +kernel⟩
theorem ok_day_counts {a : Addr} {fd : FuncData} (T : Tops K mg) (Z : At K mg "day_counts" ["plan", "k"] s_day_counts a fd) : Fn P w K mg base 1 "day_counts" 2 m_day_counts := by
  refine fn_at (lev := 0) (n := 2) (k := 2) (body := b_day_counts) Z sc_day_counts rfl rfl ?_
  intro cdv A outer s H E hr
  exact (r_one (r_ret (r_lc (own := [("other", 2)]) rfl sc_day_counts.nd (r_range1 (by rfl) T.z_range (r_var (pv 1))) (blkOk_by (by kernel_rfl)) (tgOk_name (i := 2) (vs := [2]) (by decide)) (fun _ _ _ _ _ => (pg_name (i := 2) sc_day_counts.nd rfl (by first | exact Or.inl rfl | exact Or.inr rfl))) (fun _ _ _ _ _ => r_ifs0) (fun _ _ _ _ _ => (q_len T.z_len (r_lc (own := [("day", 3)]) rfl sc_day_counts.nd (r_iter (r_var (pv 0))) (blkOk_by (by kernel_rfl)) (tgOk_name (i := 3) (vs := [3]) (by decide)) (fun _ _ _ _ _ => (pg_name (i := 3) sc_day_counts.nd rfl (by first | exact Or.inl rfl | exact Or.inr rfl))) (fun _ _ _ _ _ => (r_ifs1 (q_cmpT (c_eq (u64 hr)) (r_var (pv 3)) (r_var (pv 2))))) (fun _ _ _ _ _ => r_int)))))))
abbrev s_shows_class : Stmt := topS 19
theorem sc_shows_class : FnScope ["web", "paper", "number", "inner"] ["web", "paper"] (defScope s_shows_class) := ⟨rfl, rfl, rfl, by decide +kernel, rfl, by decide +kernel, by decide +kernel⟩
theorem ok_shows_class {a : Addr} {fd : FuncData} (T : Tops K mg) (Z : At K mg "shows_class" ["web", "paper"] s_shows_class a fd) (G_greatest_load : Fn P w K mg base 3 "greatest_load" 1 m_greatest_load) (G_is_right : Fn P w K mg base 2 "is_right" 3 m_is_right) (G_shows_tries : Fn P w K mg base 0 "shows_tries" 3 fNone) : Fn P w K mg base 4 "shows_class" 2 m_shows_class := by
  refine fn_at (lev := 3) (n := 2) (k := 2) (body := b_shows_class) Z sc_shows_class rfl rfl ?_
  intro cdv A outer s H E hr
  exact (r_cons (r_asgT (is := [2, 3]) rfl (r_var (pv 1)) (pgs_cons (pg_name (i := 2) sc_shows_class.nd rfl (by first | exact Or.inl rfl | exact Or.inr rfl)) (pgs_cons (pg_name (i := 3) sc_shows_class.nd rfl (by first | exact Or.inl rfl | exact Or.inr rfl)) pgs_nil)))
    (r_cons (r_ifS (q_cmpT (c_eq (u64 hr)) (r_var (pv 2)) r_int) (r_one (r_ret (r_call (G_is_right.mono (by omega)) hr (by rfl) (aCons_len (aCons_len (aCons_len aNil_len))) (r_acons (r_var (pv 0)) (r_acons (r_var (pv 3)) (r_acons (r_call (G_greatest_load.mono (by omega)) hr (by rfl) (aCons_len aNil_len) (r_acons (r_var (pv 0)) r_anil)) r_anil)))))) r_nil)
    (r_one (r_ret (r_eand (q_cmp (c_eq (u64 hr)) (r_var (pv 2)) r_int) (r_eone (r_call (G_shows_tries.mono (by omega)) hr (by rfl) (aCons_len (aCons_len (aCons_len aNil_len))) (r_acons (r_var (pv 0)) (r_acons (r_call (G_greatest_load.mono (by omega)) hr (by rfl) (aCons_len aNil_len) (r_acons (r_var (pv 0)) r_anil)) (r_acons (r_var (pv 3)) r_anil))))))))))
abbrev s_is_homes : Stmt := topS 21
theorem sc_is_homes : FnScope ["web", "homes", "i"] ["web", "homes"] (defScope s_is_homes) := ⟨rfl, rfl, rfl, by decide +kernel, rfl, by decide +kernel, by decide +kernel⟩
theorem ok_is_homes {a : Addr} {fd : FuncData} (T : Tops K mg) (Z : At K mg "is_homes" ["web", "homes"] s_is_homes a fd) : Fn P w K mg base 1 "is_homes" 2 m_is_homes := by
  refine fn_at (lev := 0) (n := 2) (k := 1) (body := b_is_homes) Z sc_is_homes rfl rfl ?_
  intro cdv A outer s H E hr
  exact (r_one (r_ret (r_eand (q_cmp (c_eq (u64 hr)) (q_len T.z_len (r_var (pv 1))) (q_len T.z_len (q_ix (r_var (pv 0)) r_int))) (r_eone (q_cmp (c_eq (u64 hr)) (q_len T.z_len (r_lc (own := [("i", 2)]) rfl sc_is_homes.nd (r_range1 (by rfl) T.z_range (q_len T.z_len (r_var (pv 1)))) (blkOk_by (by kernel_rfl)) (tgOk_name (i := 2) (vs := [2]) (by decide)) (fun _ _ _ _ _ => (pg_name (i := 2) sc_is_homes.nd rfl (by first | exact Or.inl rfl | exact Or.inr rfl))) (fun _ _ _ _ _ => (r_ifs1 (q_cmpT (c_nin (u65 hr)) (q_ix (r_var (pv 1)) (r_var (pv 2))) (q_ix (q_ix (r_var (pv 0)) r_int) (r_var (pv 2)))))) (fun _ _ _ _ _ => r_int))) r_int)))))
abbrev s_is_fair : Stmt := topS 22
theorem sc_is_fair : FnScope ["web", "homes", "person", "ones", "at_home", "i"] ["web", "homes"] (defScope s_is_fair) := ⟨rfl, rfl, rfl, by decide +kernel, rfl, by decide +kernel, by decide +kernel⟩
theorem ok_is_fair {a : Addr} {fd : FuncData} (T : Tops K mg) (Z : At K mg "is_fair" ["web", "homes"] s_is_fair a fd) (G_meetings_of : Fn P w K mg base 1 "meetings_of" 2 m_meetings_of) : Fn P w K mg base 2 "is_fair" 2 m_is_fair := by
  refine fn_at (lev := 1) (n := 2) (k := 4) (body := b_is_fair) Z sc_is_fair rfl rfl ?_
  intro cdv A outer s H E hr
  exact (r_cons (r_for PassesOwn.never rfl (r_range1 (by rfl) T.z_range (q_ix (r_var (pv 0)) r_int)) (pg_name (i := 2) sc_is_fair.nd rfl (by first | exact Or.inl rfl | exact Or.inr rfl)) (tgOk_name (i := 2) (vs := [2]) (by decide)) (r_cons (r_set (i := 3) sc_is_fair.nd rfl (by first | exact Or.inl rfl | exact Or.inr rfl) (r_call (G_meetings_of.mono (by omega)) hr (by rfl) (aCons_len (aCons_len aNil_len)) (r_acons (r_var (pv 0)) (r_acons (r_var (pv 2)) r_anil))) rfl (by first | exact .inl rfl | exact .inr rfl))
    (r_cons (r_set (i := 4) sc_is_fair.nd rfl (by first | exact Or.inl rfl | exact Or.inr rfl) (q_len T.z_len (r_lc (own := [("i", 5)]) rfl sc_is_fair.nd (r_iter (r_var (pv 3))) (blkOk_by (by kernel_rfl)) (tgOk_name (i := 5) (vs := [5]) (by decide)) (fun _ _ _ _ _ => (pg_name (i := 5) sc_is_fair.nd rfl (by first | exact Or.inl rfl | exact Or.inr rfl))) (fun _ _ _ _ _ => (r_ifs1 (q_cmpT (c_eq (u64 hr)) (q_ix (r_var (pv 1)) (r_var (pv 5))) (r_var (pv 2))))) (fun _ _ _ _ _ => (r_var (pv 5))))) rfl (by first | exact .inl rfl | exact .inr rfl))
    (r_one (r_ifS (q_cmpT c_gt (q_abs T.z_abs (q_sub (q_mul r_int (r_var (pv 4))) (q_len T.z_len (r_var (pv 3))))) r_int) (r_one (r_ret r_bl)) r_nil)))))
    (r_one (r_ret r_bl)))
abbrev s_start_of : Stmt := topS 24
theorem sc_start_of : FnScope ["web", "left", "counts", "odd", "person", "i"] ["web", "left"] (defScope s_start_of) := ⟨rfl, rfl, rfl, by decide +kernel, rfl, by decide +kernel, by decide +kernel⟩
theorem ok_start_of {a : Addr} {fd : FuncData} (T : Tops K mg) (Z : At K mg "start_of" ["web", "left"] s_start_of a fd) (G_meetings_of : Fn P w K mg base 1 "meetings_of" 2 m_meetings_of) : Fn P w K mg base 2 "start_of" 2 m_start_of := by
  refine fn_at (lev := 1) (n := 2) (k := 4) (body := b_start_of) Z sc_start_of rfl rfl ?_
  intro cdv A outer s H E hr
  exact (r_cons (r_set (i := 2) sc_start_of.nd rfl (by first | exact Or.inl rfl | exact Or.inr rfl) (r_lc (own := [("person", 4)]) rfl sc_start_of.nd (r_range1 (by rfl) T.z_range (q_ix (r_var (pv 0)) r_int)) (blkOk_by (by kernel_rfl)) (tgOk_name (i := 4) (vs := [4]) (by decide)) (fun _ _ _ _ _ => (pg_name (i := 4) sc_start_of.nd rfl (by first | exact Or.inl rfl | exact Or.inr rfl))) (fun _ _ _ _ _ => r_ifs0) (fun _ _ _ _ _ => (q_len T.z_len (r_lc (own := [("i", 5)]) rfl sc_start_of.nd (r_iter (r_call (G_meetings_of.mono (by omega)) hr (by rfl) (aCons_len (aCons_len aNil_len)) (r_acons (r_var (pv 0)) (r_acons (r_var (pv 4)) r_anil)))) (blkOk_by (by kernel_rfl)) (tgOk_name (i := 5) (vs := [5]) (by decide)) (fun _ _ _ _ _ => (pg_name (i := 5) sc_start_of.nd rfl (by first | exact Or.inl rfl | exact Or.inr rfl))) (fun _ _ _ _ _ => (r_ifs1 (r_inDT (hu_of hr) (r_var (pv 5)) (r_var (pv 1))))) (fun _ _ _ _ _ => (r_var (pv 5))))))) rfl (by first | exact .inl rfl | exact .inr rfl))
    (r_cons (r_setLc (i := 3) (own := [("person", 4)]) rfl sc_start_of.nd rfl rfl (sw_true rfl rfl rfl (by decide +kernel)) (r_range1 (by rfl) T.z_range (q_ix (r_var (pv 0)) r_int)) (blkOk_by (by kernel_rfl)) (tgOk_name (i := 4) (vs := [4]) (by decide)) (fun _ _ _ _ _ => (pg_name (i := 4) sc_start_of.nd rfl (by first | exact Or.inl rfl | exact Or.inr rfl))) (fun _ _ _ _ _ => (r_ifs1 (q_cmpT (c_eq (u64 hr)) (q_mod (q_ix (r_var (pv 2)) (r_var (pv 4))) r_int) r_int))) (fun _ _ _ _ _ => (r_var (pv 4))))
    (r_cons (r_ifS (q_cmpT c_gt (q_len T.z_len (r_var (pv 3))) r_int) (r_one (r_ret (q_ix (r_var (pv 3)) r_int))) r_nil)
    (r_one (r_ret (q_ix (r_lc (own := [("person", 4)]) rfl sc_start_of.nd (r_range1 (by rfl) T.z_range (q_ix (r_var (pv 0)) r_int)) (blkOk_by (by kernel_rfl)) (tgOk_name (i := 4) (vs := [4]) (by decide)) (fun _ _ _ _ _ => (pg_name (i := 4) sc_start_of.nd rfl (by first | exact Or.inl rfl | exact Or.inr rfl))) (fun _ _ _ _ _ => (r_ifs1 (q_cmpT c_gt (q_ix (r_var (pv 2)) (r_var (pv 4))) r_int))) (fun _ _ _ _ _ => (r_var (pv 4)))) r_int))))))
abbrev s_fair_homes : Stmt := topS 23
theorem sc_fair_homes : FnScope ["web", "homes", "left", "person", "ones", "i"] ["web"] (defScope s_fair_homes) := ⟨rfl, rfl, rfl, by decide +kernel, rfl, by decide +kernel, by decide +kernel⟩
theorem ok_fair_homes {a : Addr} {fd : FuncData} (T : Tops K mg) (Z : At K mg "fair_homes" ["web"] s_fair_homes a fd) (G_meetings_of : Fn P w K mg base 1 "meetings_of" 2 m_meetings_of) (G_other_of : Fn P w K mg base 1 "other_of" 3 m_other_of) (G_start_of : Fn P w K mg base 2 "start_of" 2 m_start_of) : Fn P w K mg base 3 "fair_homes" 1 m_fair_homes := by
  refine fn_at (lev := 2) (n := 1) (k := 5) (body := b_fair_homes) Z sc_fair_homes rfl rfl ?_
  intro cdv A outer s H E hr
  exact (r_cons (r_set (i := 1) sc_fair_homes.nd rfl (by first | exact Or.inl rfl | exact Or.inr rfl) r_dicO rfl (by first | exact .inl rfl | exact .inr rfl))
    (r_cons (r_set (i := 2) sc_fair_homes.nd rfl (by first | exact Or.inl rfl | exact Or.inr rfl) (r_dcO (own := [("i", 5)]) rfl sc_fair_homes.nd (r_range1 (by rfl) T.z_range (q_len T.z_len (q_ix (r_var (pv 0)) r_int))) (blkOk_by (by kernel_rfl)) (tgOk_name (i := 5) (vs := [5]) (by decide)) (fun _ _ _ _ _ => (pg_name (i := 5) sc_fair_homes.nd rfl (by first | exact Or.inl rfl | exact Or.inr rfl))) (fun _ _ _ _ _ => r_ifs0) (fun _ _ _ _ _ => (r_var (pv 5))) (fun _ _ _ _ _ => r_bl)) rfl (by first | exact .inl rfl | exact .inr rfl))
    (r_cons (r_while PassesOwn.never (q_cmpT c_gt (q_len T.z_len (r_var (pv 2))) r_int) (r_cons (r_set (i := 3) sc_fair_homes.nd rfl (by first | exact Or.inl rfl | exact Or.inr rfl) (r_call (G_start_of.mono (by omega)) hr (by rfl) (aCons_len (aCons_len aNil_len)) (r_acons (r_var (pv 0)) (r_acons (r_var (pv 2)) r_anil))) rfl (by first | exact .inl rfl | exact .inr rfl))
    (r_one (r_while PassesOwn.never (r_val r_bl) (r_cons (r_setLc (i := 4) (own := [("i", 5)]) rfl sc_fair_homes.nd rfl rfl (sw_true rfl rfl rfl (by decide +kernel)) (r_iter (r_call (G_meetings_of.mono (by omega)) hr (by rfl) (aCons_len (aCons_len aNil_len)) (r_acons (r_var (pv 0)) (r_acons (r_var (pv 3)) r_anil)))) (blkOk_by (by kernel_rfl)) (tgOk_name (i := 5) (vs := [5]) (by decide)) (fun _ _ _ _ _ => (pg_name (i := 5) sc_fair_homes.nd rfl (by first | exact Or.inl rfl | exact Or.inr rfl))) (fun _ _ _ _ _ => (r_ifs1 (r_inDT (hu_of hr) (r_var (pv 5)) (r_var (pv 2))))) (fun _ _ _ _ _ => (r_var (pv 5))))
    (r_cons (r_ifS (q_cmpT (c_eq (u64 hr)) (q_len T.z_len (r_var (pv 4))) r_int) (r_one r_brk) r_nil)
    (r_cons (r_putD (hu_of hr) (r_var (pv 1)) (q_ix (r_var (pv 4)) r_int) (r_var (pv 3)) rfl)
    (r_cons (r_delD (r_var (pv 2)) (q_ix (r_var (pv 4)) r_int))
    (r_one (r_set (i := 3) sc_fair_homes.nd rfl (by first | exact Or.inl rfl | exact Or.inr rfl) (r_call (G_other_of.mono (by omega)) hr (by rfl) (aCons_len (aCons_len (aCons_len aNil_len))) (r_acons (r_var (pv 0)) (r_acons (q_ix (r_var (pv 4)) r_int) (r_acons (r_var (pv 3)) r_anil)))) rfl (by first | exact .inl rfl | exact .inr rfl)))))))))))
    (r_one (r_ret (q_tuple T.z_tuple (r_lc (own := [("i", 5)]) rfl sc_fair_homes.nd (r_range1 (by rfl) T.z_range (q_len T.z_len (q_ix (r_var (pv 0)) r_int))) (blkOk_by (by kernel_rfl)) (tgOk_name (i := 5) (vs := [5]) (by decide)) (fun _ _ _ _ _ => (pg_name (i := 5) sc_fair_homes.nd rfl (by first | exact Or.inl rfl | exact Or.inr rfl))) (fun _ _ _ _ _ => r_ifs0) (fun _ _ _ _ _ => (r_getD (hu_of hr) (r_var (pv 1)) (r_var (pv 5)) (fun _ _ => rfl))))))))))
abbrev s_is_even : Stmt := topS 26
theorem sc_is_even : FnScope ["plan", "k", "counts"] ["plan", "k"] (defScope s_is_even) := ⟨rfl, rfl, rfl, by decide +kernel, rfl, by decide +kernel, by decide +kernel⟩
theorem ok_is_even {a : Addr} {fd : FuncData} (T : Tops K mg) (Z : At K mg "is_even" ["plan", "k"] s_is_even a fd) (G_day_counts : Fn P w K mg base 1 "day_counts" 2 m_day_counts) : Fn P w K mg base 2 "is_even" 2 m_is_even := by
  refine fn_at (lev := 1) (n := 2) (k := 1) (body := b_is_even) Z sc_is_even rfl rfl ?_
  intro cdv A outer s H E hr
  exact (r_cons (r_set (i := 2) sc_is_even.nd rfl (by first | exact Or.inl rfl | exact Or.inr rfl) (r_call (G_day_counts.mono (by omega)) hr (by rfl) (aCons_len (aCons_len aNil_len)) (r_acons (r_var (pv 0)) (r_acons (r_var (pv 1)) r_anil))) rfl (by first | exact .inl rfl | exact .inr rfl))
    (r_one (r_ret (q_cmp c_lt (q_sub (q_max rfl T.z_max (r_var (pv 2))) (q_min rfl T.z_min (r_var (pv 2)))) r_int))))
abbrev s_shows_rooms : Stmt := topS 27
theorem sc_shows_rooms : FnScope ["web", "k", "r", "plan", "count"] ["web", "k", "r", "plan"] (defScope s_shows_rooms) := ⟨rfl, rfl, rfl, by decide +kernel, rfl, by decide +kernel, by decide +kernel⟩
theorem ok_shows_rooms {a : Addr} {fd : FuncData} (T : Tops K mg) (Z : At K mg "shows_rooms" ["web", "k", "r", "plan"] s_shows_rooms a fd) (G_day_counts : Fn P w K mg base 1 "day_counts" 2 m_day_counts) (G_is_right : Fn P w K mg base 2 "is_right" 3 m_is_right) : Fn P w K mg base 3 "shows_rooms" 4 m_shows_rooms := by
  refine fn_at (lev := 2) (n := 4) (k := 1) (body := b_shows_rooms) Z sc_shows_rooms rfl rfl ?_
  intro cdv A outer s H E hr
  exact (r_one (r_ret (r_eand (r_call (G_is_right.mono (by omega)) hr (by rfl) (aCons_len (aCons_len (aCons_len aNil_len))) (r_acons (r_var (pv 0)) (r_acons (r_var (pv 3)) (r_acons (r_var (pv 1)) r_anil)))) (r_eone (q_cmp (c_eq (u64 hr)) (q_len T.z_len (r_lc (own := [("count", 4)]) rfl sc_shows_rooms.nd (r_iter (r_call (G_day_counts.mono (by omega)) hr (by rfl) (aCons_len (aCons_len aNil_len)) (r_acons (r_var (pv 3)) (r_acons (r_var (pv 1)) r_anil)))) (blkOk_by (by kernel_rfl)) (tgOk_name (i := 4) (vs := [4]) (by decide)) (fun _ _ _ _ _ => (pg_name (i := 4) sc_shows_rooms.nd rfl (by first | exact Or.inl rfl | exact Or.inr rfl))) (fun _ _ _ _ _ => (r_ifs1 (q_cmpT c_gt (r_var (pv 4)) (r_var (pv 2))))) (fun _ _ _ _ _ => r_int))) r_int)))))
abbrev s_is_in_stretches : Stmt := topS 29
theorem sc_is_in_stretches : FnScope ["web", "plan", "person", "days", "i"] ["web", "plan"] (defScope s_is_in_stretches) := ⟨rfl, rfl, rfl, by decide +kernel, rfl, by decide +kernel, by decide +kernel⟩
theorem ok_is_in_stretches {a : Addr} {fd : FuncData} (T : Tops K mg) (Z : At K mg "is_in_stretches" ["web", "plan"] s_is_in_stretches a fd) (G_meetings_of : Fn P w K mg base 1 "meetings_of" 2 m_meetings_of) : Fn P w K mg base 2 "is_in_stretches" 2 m_is_in_stretches := by
  refine fn_at (lev := 1) (n := 2) (k := 3) (body := b_is_in_stretches) Z sc_is_in_stretches rfl rfl ?_
  intro cdv A outer s H E hr
  exact (r_cons (r_for PassesOwn.never rfl (r_range1 (by rfl) T.z_range (q_ix (r_var (pv 0)) r_int)) (pg_name (i := 2) sc_is_in_stretches.nd rfl (by first | exact Or.inl rfl | exact Or.inr rfl)) (tgOk_name (i := 2) (vs := [2]) (by decide)) (r_cons (r_setLc (i := 3) (own := [("i", 4)]) rfl sc_is_in_stretches.nd rfl rfl (sw_true rfl rfl rfl (by decide +kernel)) (r_iter (r_call (G_meetings_of.mono (by omega)) hr (by rfl) (aCons_len (aCons_len aNil_len)) (r_acons (r_var (pv 0)) (r_acons (r_var (pv 2)) r_anil)))) (blkOk_by (by kernel_rfl)) (tgOk_name (i := 4) (vs := [4]) (by decide)) (fun _ _ _ _ _ => (pg_name (i := 4) sc_is_in_stretches.nd rfl (by first | exact Or.inl rfl | exact Or.inr rfl))) (fun _ _ _ _ _ => r_ifs0) (fun _ _ _ _ _ => (q_ix (r_var (pv 1)) (r_var (pv 4)))))
    (r_one (r_ifS (r_and (q_cmpT c_gt (q_len T.z_len (r_var (pv 3))) r_int) (r_and1 (q_cmpT (c_ne (u64 hr)) (q_add (q_sub (q_max rfl T.z_max (r_var (pv 3))) (q_min rfl T.z_min (r_var (pv 3)))) r_int) (r_lenSet rfl (by rfl) T.z_len (by rfl) T.z_set (r_var (pv 3)))))).pt (r_one (r_ret r_bl)) r_nil))))
    (r_one (r_ret r_bl)))
abbrev s_are_level : Stmt := topS 31
theorem sc_are_level : FnScope ["web", "weeks", "k", "person", "mine", "counts", "i", "number"] ["web", "weeks", "k"] (defScope s_are_level) := ⟨rfl, rfl, rfl, by decide +kernel, rfl, by decide +kernel, by decide +kernel⟩
theorem ok_are_level {a : Addr} {fd : FuncData} (T : Tops K mg) (Z : At K mg "are_level" ["web", "weeks", "k"] s_are_level a fd) (G_meetings_of : Fn P w K mg base 1 "meetings_of" 2 m_meetings_of) : Fn P w K mg base 2 "are_level" 3 m_are_level := by
  refine fn_at (lev := 1) (n := 3) (k := 5) (body := b_are_level) Z sc_are_level rfl rfl ?_
  intro cdv A outer s H E hr
  exact (r_cons (r_ifS (r_or (q_cmpT (c_ne (u64 hr)) (q_len T.z_len (r_var (pv 1))) (q_len T.z_len (q_ix (r_var (pv 0)) r_int))) (r_or1 (q_cmpT c_gt (q_len T.z_len (r_lc (own := [("number", 7)]) rfl sc_are_level.nd (r_iter (r_var (pv 1))) (blkOk_by (by kernel_rfl)) (tgOk_name (i := 7) (vs := [7]) (by decide)) (fun _ _ _ _ _ => (pg_name (i := 7) sc_are_level.nd rfl (by first | exact Or.inl rfl | exact Or.inr rfl))) (fun _ _ _ _ _ => (r_ifs1 (r_not (q_chainT c_le c_lt r_int (r_var (pv 7)) (r_var (pv 2)))))) (fun _ _ _ _ _ => r_int))) r_int))).pt (r_one (r_ret r_bl)) r_nil)
    (r_cons (r_for PassesOwn.never rfl (r_range1 (by rfl) T.z_range (q_ix (r_var (pv 0)) r_int)) (pg_name (i := 3) sc_are_level.nd rfl (by first | exact Or.inl rfl | exact Or.inr rfl)) (tgOk_name (i := 3) (vs := [3]) (by decide)) (r_cons (r_set (i := 4) sc_are_level.nd rfl (by first | exact Or.inl rfl | exact Or.inr rfl) (r_lc (own := [("i", 6)]) rfl sc_are_level.nd (r_iter (r_call (G_meetings_of.mono (by omega)) hr (by rfl) (aCons_len (aCons_len aNil_len)) (r_acons (r_var (pv 0)) (r_acons (r_var (pv 3)) r_anil)))) (blkOk_by (by kernel_rfl)) (tgOk_name (i := 6) (vs := [6]) (by decide)) (fun _ _ _ _ _ => (pg_name (i := 6) sc_are_level.nd rfl (by first | exact Or.inl rfl | exact Or.inr rfl))) (fun _ _ _ _ _ => r_ifs0) (fun _ _ _ _ _ => (q_ix (r_var (pv 1)) (r_var (pv 6))))) rfl (by first | exact .inl rfl | exact .inr rfl))
    (r_cons (r_setLc (i := 5) (own := [("number", 7)]) rfl sc_are_level.nd rfl rfl (sw_true rfl rfl rfl (by decide +kernel)) (r_range1 (by rfl) T.z_range (r_var (pv 2))) (blkOk_by (by kernel_rfl)) (tgOk_name (i := 7) (vs := [7]) (by decide)) (fun _ _ _ _ _ => (pg_name (i := 7) sc_are_level.nd rfl (by first | exact Or.inl rfl | exact Or.inr rfl))) (fun _ _ _ _ _ => r_ifs0) (fun _ _ _ _ _ => (r_count (r_var (pv 4)) (r_var (pv 7)))))
    (r_one (r_ifS (q_cmpT c_gt (q_sub (q_max rfl T.z_max (r_var (pv 5))) (q_min rfl T.z_min (r_var (pv 5)))) r_int) (r_one (r_ret r_bl)) r_nil)))))
    (r_one (r_ret r_bl))))
abbrev s__law_deal : Stmt := topS 33
theorem sc__law_deal : FnScope ["script", "row", "k", "cell", "turn", "total"] ["script"] (defScope s__law_deal) := ⟨rfl, rfl, rfl, by decide +kernel, rfl, by decide +kernel, by decide +kernel⟩
theorem ok__law_deal {a : Addr} {fd : FuncData} (T : Tops K mg) (Z : At K mg "_law_deal" ["script"] s__law_deal a fd) : Fn P w K mg base 1 "_law_deal" 1 m__law_deal := by
  refine fn_at (lev := 0) (n := 1) (k := 5) (body := b__law_deal) Z sc__law_deal rfl rfl ?_
  intro cdv A outer s H E hr
  exact (r_cons (r_set (i := 1) sc__law_deal.nd rfl (by first | exact Or.inl rfl | exact Or.inr rfl) (r_lstO r_anil) rfl (by first | exact .inl rfl | exact .inr rfl))
    (r_cons (r_for PassesOwn.never rfl (r_range1 (by rfl) T.z_range (q_min2 rfl T.z_min (q_len T.z_len (r_var (pv 0))) r_int)) (pg_name (i := 2) sc__law_deal.nd rfl (by first | exact Or.inl rfl | exact Or.inr rfl)) (tgOk_name (i := 2) (vs := [2]) (by decide)) (r_cons (r_set (i := 3) sc__law_deal.nd rfl (by first | exact Or.inl rfl | exact Or.inr rfl) (q_abs T.z_abs (q_int T.z_int (q_ix (r_var (pv 0)) (r_var (pv 2))))) rfl (by first | exact .inl rfl | exact .inr rfl))
    (r_one (r_ifS (q_cmpT c_ge (r_var (pv 3)) (q_pow r_int r_int)) (r_one (r_for PassesOwn.never rfl (r_range1 (by rfl) T.z_range r_int) (pg_name (i := 4) sc__law_deal.nd rfl (by first | exact Or.inl rfl | exact Or.inr rfl)) (tgOk_name (i := 4) (vs := [4]) (by decide)) (r_one (r_ifS (q_cmpT c_gt (r_var (pv 3)) r_int) (r_cons (r_expr (r_app (r_var (pv 1)) (q_mod (r_var (pv 3)) r_int)))
    (r_one (r_set (i := 3) sc__law_deal.nd rfl (by first | exact Or.inl rfl | exact Or.inr rfl) (q_div (r_var (pv 3)) r_int) rfl (by first | exact .inl rfl | exact .inr rfl)))) r_nil)))) (r_cons (r_set (i := 3) sc__law_deal.nd rfl (by first | exact Or.inl rfl | exact Or.inr rfl) (q_add (q_add (q_mul (q_mod (r_var (pv 3)) r_int) r_int) (q_mul (r_var (pv 2)) r_int)) r_int) rfl (by first | exact .inl rfl | exact .inr rfl))
    (r_one (r_for PassesOwn.never rfl (r_range1 (by rfl) T.z_range r_int) (pg_name (i := 4) sc__law_deal.nd rfl (by first | exact Or.inl rfl | exact Or.inr rfl)) (tgOk_name (i := 4) (vs := [4]) (by decide)) (r_cons (r_set (i := 3) sc__law_deal.nd rfl (by first | exact Or.inl rfl | exact Or.inr rfl) (q_mod (q_add (q_add (q_mul (r_var (pv 3)) r_int) r_int) (r_var (pv 4))) r_int) rfl (by first | exact .inl rfl | exact .inr rfl))
    (r_one (r_expr (r_app (r_var (pv 1)) (q_mod (q_div (r_var (pv 3)) r_int) r_int))))))))))))
    (r_cons (r_set (i := 5) sc__law_deal.nd rfl (by first | exact Or.inl rfl | exact Or.inr rfl) (q_add (q_sum rfl T.z_sum (r_var (pv 1))) (q_len T.z_len (r_var (pv 0)))) rfl (by first | exact .inl rfl | exact .inr rfl))
    (r_one (r_ret (r_deal (r_var (pv 1)) (r_lstO (r_acons r_int r_anil)) (r_var (pv 5))))))))
abbrev s__law_take : Stmt := topS 34
theorem sc__law_take : FnScope ["deal", "many", "at"] ["deal", "many"] (defScope s__law_take) := ⟨rfl, rfl, rfl, by decide +kernel, rfl, by decide +kernel, by decide +kernel⟩
theorem ok__law_take {a : Addr} {fd : FuncData} (T : Tops K mg) (Z : At K mg "_law_take" ["deal", "many"] s__law_take a fd) : Fn P w K mg base 1 "_law_take" 2 m__law_take := by
  refine fn_at (lev := 0) (n := 2) (k := 1) (body := b__law_take) Z sc__law_take rfl rfl ?_
  intro cdv A outer s H E hr
  exact (r_cons (r_set (i := 2) sc__law_take.nd rfl (by first | exact Or.inl rfl | exact Or.inr rfl) (q_ix (q_ix (r_var (pv 0)) r_int) r_int) rfl (by first | exact .inl rfl | exact .inr rfl))
    (r_cons (r_putL (q_ix (r_var (pv 0)) r_int) r_int (q_add (r_var (pv 2)) r_int))
    (r_cons (r_ifS (q_cmpT c_lt (r_var (pv 2)) (q_len T.z_len (q_ix (r_var (pv 0)) r_int))) (r_one (r_ret (q_mod (q_ix (q_ix (r_var (pv 0)) r_int) (r_var (pv 2))) (r_var (pv 1))))) r_nil)
    (r_one (r_ret (q_mod (q_div (q_add (q_add (q_mul (r_var (pv 2)) r_int) (q_mul (q_ix (r_var (pv 0)) r_int) r_int)) (q_mul (q_mul (r_var (pv 2)) (r_var (pv 2))) r_int)) r_int) (r_var (pv 1))))))))
abbrev s__law_same : Stmt := topS 35
theorem sc__law_same : FnScope ["a", "b", "k"] ["a", "b"] (defScope s__law_same) := ⟨rfl, rfl, rfl, by decide +kernel, rfl, by decide +kernel, by decide +kernel⟩
theorem ok__law_same {a : Addr} {fd : FuncData} (T : Tops K mg) (Z : At K mg "_law_same" ["a", "b"] s__law_same a fd) : ∀ n : Nat, Fn P w K mg base (1 + n) "_law_same" 2 (m__law_same n)
  | 0 => fn_none Z
  | n + 1 => by
    have G__law_same := ok__law_same T Z n
    refine fn_at (lev := 1 + n) (n := 2) (k := 1) (body := b__law_same (m__law_same n)) Z sc__law_same rfl rfl ?_
    intro cdv A outer s H E hr
    exact (r_cons (r_ifS (r_or (r_val (q_isi (by decide) T.z_isinstance T.z_tuple (by decide +kernel) (r_var (pv 1)))) (r_or1 (r_val (q_isi (by decide) T.z_isinstance T.z_list (by decide +kernel) (r_var (pv 1)))))).pt (r_cons (r_ifS (r_or (r_and (r_val (q_isi (by decide) T.z_isinstance T.z_tuple (by decide +kernel) (r_var (pv 1)))) (r_and1 (r_not (r_val (q_isi (by decide) T.z_isinstance T.z_tuple (by decide +kernel) (r_var (pv 0))))))).pt (r_or1 (r_and (r_val (q_isi (by decide) T.z_isinstance T.z_list (by decide +kernel) (r_var (pv 1)))) (r_and1 (r_not (r_val (q_isi (by decide) T.z_isinstance T.z_list (by decide +kernel) (r_var (pv 0))))))).pt)).pt (r_one (r_ret r_bl)) r_nil)
    (r_cons (r_ifS (q_cmpT (c_ne (u64 hr)) (q_len T.z_len (r_var (pv 0))) (q_len T.z_len (r_var (pv 1)))) (r_one (r_ret r_bl)) r_nil)
    (r_cons (r_for PassesOwn.never rfl (r_range1 (by rfl) T.z_range (q_len T.z_len (r_var (pv 1)))) (pg_name (i := 2) sc__law_same.nd rfl (by first | exact Or.inl rfl | exact Or.inr rfl)) (tgOk_name (i := 2) (vs := [2]) (by decide)) (r_one (r_ifS (r_not (r_val (r_call (G__law_same.mono (by omega)) hr (by rfl) (aCons_len (aCons_len aNil_len)) (r_acons (q_ix (r_var (pv 0)) (r_var (pv 2))) (r_acons (q_ix (r_var (pv 1)) (r_var (pv 2))) r_anil))))) (r_one (r_ret r_bl)) r_nil)))
    (r_one (r_ret r_bl))))) r_nil)
    (r_cons (r_ifS (r_or (r_val (q_isi (by decide) T.z_isinstance T.z_bool (by decide +kernel) (r_var (pv 0)))) (r_or1 (r_val (q_isi (by decide) T.z_isinstance T.z_bool (by decide +kernel) (r_var (pv 1)))))).pt (r_one (r_ret (r_eand (q_isi (by decide) T.z_isinstance T.z_bool (by decide +kernel) (r_var (pv 0))) (r_eand (q_isi (by decide) T.z_isinstance T.z_bool (by decide +kernel) (r_var (pv 1))) (r_eone (q_cmp (c_eq (u64 hr)) (r_var (pv 0)) (r_var (pv 1)))))))) r_nil)
    (r_cons (r_ifS (r_val (q_isi (by decide) T.z_isinstance T.z_int (by decide +kernel) (r_var (pv 1)))) (r_one (r_ret (r_eand (q_isi (by decide) T.z_isinstance T.z_int (by decide +kernel) (r_var (pv 0))) (r_eone (q_cmp (c_eq (u64 hr)) (r_var (pv 0)) (r_var (pv 1))))))) r_nil)
    (r_cons (r_ifS (r_val (q_isi (by decide) T.z_isinstance T.z_str (by decide +kernel) (r_var (pv 1)))) (r_one (r_ret (r_eand (q_isi (by decide) T.z_isinstance T.z_str (by decide +kernel) (r_var (pv 0))) (r_eone (q_cmp (c_eq (u64 hr)) (r_var (pv 0)) (r_var (pv 1))))))) r_nil)
    (r_one (r_ret (r_eand (q_cmp c_is (r_var (pv 0)) r_non) (r_eone (q_cmp c_is (r_var (pv 1)) r_non)))))))))
abbrev s__law_bool : Stmt := topS 36
theorem sc__law_bool : FnScope ["answer", "due"] ["answer", "due"] (defScope s__law_bool) := ⟨rfl, rfl, rfl, by decide +kernel, rfl, by decide +kernel, by decide +kernel⟩
theorem ok__law_bool {a : Addr} {fd : FuncData} (T : Tops K mg) (Z : At K mg "_law_bool" ["answer", "due"] s__law_bool a fd) : Fn P w K mg base 1 "_law_bool" 2 m__law_bool := by
  refine fn_at (lev := 0) (n := 2) (k := 0) (body := b__law_bool) Z sc__law_bool rfl rfl ?_
  intro cdv A outer s H E hr
  exact (r_one (r_ret (r_eand (q_isi (by decide) T.z_isinstance T.z_bool (by decide +kernel) (r_var (pv 0))) (r_eone (q_cmp (c_eq (u64 hr)) (r_var (pv 0)) (r_var (pv 1)))))))
abbrev s__law_pick : Stmt := topS 37
theorem sc__law_pick : FnScope ["deal", "things"] ["deal", "things"] (defScope s__law_pick) := ⟨rfl, rfl, rfl, by decide +kernel, rfl, by decide +kernel, by decide +kernel⟩
theorem ok__law_pick {a : Addr} {fd : FuncData} (T : Tops K mg) (Z : At K mg "_law_pick" ["deal", "things"] s__law_pick a fd) (G__law_take : Fn P w K mg base 1 "_law_take" 2 m__law_take) : Fn P w K mg base 2 "_law_pick" 2 m__law_pick := by
  refine fn_at (lev := 1) (n := 2) (k := 0) (body := b__law_pick) Z sc__law_pick rfl rfl ?_
  intro cdv A outer s H E hr
  exact (r_one (r_ret (q_ix (r_var (pv 1)) (r_call (G__law_take.mono (by omega)) hr (by rfl) (aCons_len (aCons_len aNil_len)) (r_acons (r_var (pv 0)) (r_acons (q_len T.z_len (r_var (pv 1))) r_anil))))))
abbrev s__law_plain : Stmt := topS 38
theorem sc__law_plain : FnScope ["deal", "most", "limit", "people", "chance", "meetings", "a", "b", "turn", "at"] ["deal", "most", "limit"] (defScope s__law_plain) := ⟨rfl, rfl, rfl, by decide +kernel, rfl, by decide +kernel, by decide +kernel⟩
theorem ok__law_plain {a : Addr} {fd : FuncData} (T : Tops K mg) (Z : At K mg "_law_plain" ["deal", "most", "limit"] s__law_plain a fd) (G__law_take : Fn P w K mg base 1 "_law_take" 2 m__law_take) : Fn P w K mg base 2 "_law_plain" 3 m__law_plain := by
  refine fn_at (lev := 1) (n := 3) (k := 7) (body := b__law_plain) Z sc__law_plain rfl rfl ?_
  intro cdv A outer s H E hr
  exact (r_cons (r_set (i := 3) sc__law_plain.nd rfl (by first | exact Or.inl rfl | exact Or.inr rfl) (r_call (G__law_take.mono (by omega)) hr (by rfl) (aCons_len (aCons_len aNil_len)) (r_acons (r_var (pv 0)) (r_acons (q_add (r_var (pv 1)) r_int) r_anil))) rfl (by first | exact .inl rfl | exact .inr rfl))
    (r_cons (r_set (i := 4) sc__law_plain.nd rfl (by first | exact Or.inl rfl | exact Or.inr rfl) (q_add r_int (r_call (G__law_take.mono (by omega)) hr (by rfl) (aCons_len (aCons_len aNil_len)) (r_acons (r_var (pv 0)) (r_acons r_int r_anil)))) rfl (by first | exact .inl rfl | exact .inr rfl))
    (r_cons (r_set (i := 5) sc__law_plain.nd rfl (by first | exact Or.inl rfl | exact Or.inr rfl) (r_lstO r_anil) rfl (by first | exact .inl rfl | exact .inr rfl))
    (r_cons (r_for PassesOwn.never rfl (r_range1 (by rfl) T.z_range (r_var (pv 3))) (pg_name (i := 6) sc__law_plain.nd rfl (by first | exact Or.inl rfl | exact Or.inr rfl)) (tgOk_name (i := 6) (vs := [6]) (by decide)) (r_one (r_for PassesOwn.never rfl (r_range2 (by rfl) T.z_range (q_add (r_var (pv 6)) r_int) (r_var (pv 3))) (pg_name (i := 7) sc__law_plain.nd rfl (by first | exact Or.inl rfl | exact Or.inr rfl)) (tgOk_name (i := 7) (vs := [7]) (by decide)) (r_one (r_ifS (r_and (q_cmpT c_lt (r_call (G__law_take.mono (by omega)) hr (by rfl) (aCons_len (aCons_len aNil_len)) (r_acons (r_var (pv 0)) (r_acons r_int r_anil))) (r_var (pv 4))) (r_and1 (q_cmpT c_lt (q_len T.z_len (r_var (pv 5))) (r_var (pv 2))))).pt (r_one (r_expr (r_app (r_var (pv 5)) (r_tup (r_acons (r_var (pv 6)) (r_acons (r_var (pv 7)) r_anil)))))) r_nil)))))
    (r_cons (r_for PassesOwn.never rfl (r_range1 (by rfl) T.z_range (r_call (G__law_take.mono (by omega)) hr (by rfl) (aCons_len (aCons_len aNil_len)) (r_acons (r_var (pv 0)) (r_acons r_int r_anil)))) (pg_name (i := 8) sc__law_plain.nd rfl (by first | exact Or.inl rfl | exact Or.inr rfl)) (tgOk_name (i := 8) (vs := [8]) (by decide)) (r_one (r_ifS (q_cmpT c_gt (q_len T.z_len (r_var (pv 5))) r_int) (r_cons (r_set (i := 9) sc__law_plain.nd rfl (by first | exact Or.inl rfl | exact Or.inr rfl) (r_call (G__law_take.mono (by omega)) hr (by rfl) (aCons_len (aCons_len aNil_len)) (r_acons (r_var (pv 0)) (r_acons (q_len T.z_len (r_var (pv 5))) r_anil))) rfl (by first | exact .inl rfl | exact .inr rfl))
    (r_one (r_set (i := 5) sc__law_plain.nd rfl (by first | exact Or.inl rfl | exact Or.inr rfl) (q_add (r_sl (r_var (pv 5)) (r_osome (r_var (pv 9))) r_onone) (r_sl (r_var (pv 5)) r_onone (r_osome (r_var (pv 9))))) rfl (by first | exact .inl rfl | exact .inr rfl)))) r_nil)))
    (r_one (r_ret (r_tup (r_acons (r_var (pv 3)) (r_acons (q_tuple T.z_tuple (r_var (pv 5))) r_anil))))))))))
abbrev s__law_sided : Stmt := topS 39
theorem sc__law_sided : FnScope ["deal", "most", "limit", "one", "other", "meetings", "turn"] ["deal", "most", "limit"] (defScope s__law_sided) := ⟨rfl, rfl, rfl, by decide +kernel, rfl, by decide +kernel, by decide +kernel⟩
theorem ok__law_sided {a : Addr} {fd : FuncData} (T : Tops K mg) (Z : At K mg "_law_sided" ["deal", "most", "limit"] s__law_sided a fd) (G__law_take : Fn P w K mg base 1 "_law_take" 2 m__law_take) : Fn P w K mg base 2 "_law_sided" 3 m__law_sided := by
  refine fn_at (lev := 1) (n := 3) (k := 4) (body := b__law_sided) Z sc__law_sided rfl rfl ?_
  intro cdv A outer s H E hr
  exact (r_cons (r_set (i := 3) sc__law_sided.nd rfl (by first | exact Or.inl rfl | exact Or.inr rfl) (q_add r_int (r_call (G__law_take.mono (by omega)) hr (by rfl) (aCons_len (aCons_len aNil_len)) (r_acons (r_var (pv 0)) (r_acons (r_var (pv 1)) r_anil)))) rfl (by first | exact .inl rfl | exact .inr rfl))
    (r_cons (r_set (i := 4) sc__law_sided.nd rfl (by first | exact Or.inl rfl | exact Or.inr rfl) (q_add r_int (r_call (G__law_take.mono (by omega)) hr (by rfl) (aCons_len (aCons_len aNil_len)) (r_acons (r_var (pv 0)) (r_acons (r_var (pv 1)) r_anil)))) rfl (by first | exact .inl rfl | exact .inr rfl))
    (r_cons (r_set (i := 5) sc__law_sided.nd rfl (by first | exact Or.inl rfl | exact Or.inr rfl) (r_lstO r_anil) rfl (by first | exact .inl rfl | exact .inr rfl))
    (r_cons (r_for PassesOwn.never rfl (r_range1 (by rfl) T.z_range (r_call (G__law_take.mono (by omega)) hr (by rfl) (aCons_len (aCons_len aNil_len)) (r_acons (r_var (pv 0)) (r_acons (q_add (r_var (pv 2)) r_int) r_anil)))) (pg_name (i := 6) sc__law_sided.nd rfl (by first | exact Or.inl rfl | exact Or.inr rfl)) (tgOk_name (i := 6) (vs := [6]) (by decide)) (r_one (r_expr (r_app (r_var (pv 5)) (r_tup (r_acons (r_call (G__law_take.mono (by omega)) hr (by rfl) (aCons_len (aCons_len aNil_len)) (r_acons (r_var (pv 0)) (r_acons (r_var (pv 3)) r_anil))) (r_acons (q_add (r_var (pv 3)) (r_call (G__law_take.mono (by omega)) hr (by rfl) (aCons_len (aCons_len aNil_len)) (r_acons (r_var (pv 0)) (r_acons (r_var (pv 4)) r_anil)))) r_anil)))))))
    (r_one (r_ret (r_tup (r_acons (q_add (r_var (pv 3)) (r_var (pv 4))) (r_acons (q_tuple T.z_tuple (r_var (pv 5))) r_anil)))))))))
abbrev s__law_any : Stmt := topS 40
theorem sc__law_any : FnScope ["deal", "limit", "choice", "people", "meetings", "turn", "a"] ["deal", "limit"] (defScope s__law_any) := ⟨rfl, rfl, rfl, by decide +kernel, rfl, by decide +kernel, by decide +kernel⟩
theorem ok__law_any {a : Addr} {fd : FuncData} (T : Tops K mg) (Z : At K mg "_law_any" ["deal", "limit"] s__law_any a fd) (G__law_plain : Fn P w K mg base 2 "_law_plain" 3 m__law_plain) (G__law_sided : Fn P w K mg base 2 "_law_sided" 3 m__law_sided) (G__law_take : Fn P w K mg base 1 "_law_take" 2 m__law_take) : Fn P w K mg base 3 "_law_any" 2 m__law_any := by
  refine fn_at (lev := 2) (n := 2) (k := 5) (body := b__law_any) Z sc__law_any rfl rfl ?_
  intro cdv A outer s H E hr
  exact (r_cons (r_set (i := 2) sc__law_any.nd rfl (by first | exact Or.inl rfl | exact Or.inr rfl) (r_call (G__law_take.mono (by omega)) hr (by rfl) (aCons_len (aCons_len aNil_len)) (r_acons (r_var (pv 0)) (r_acons r_int r_anil))) rfl (by first | exact .inl rfl | exact .inr rfl))
    (r_cons (r_ifS (q_cmpT (c_eq (u64 hr)) (r_var (pv 2)) r_int) (r_one (r_ret (r_call (G__law_plain.mono (by omega)) hr (by rfl) (aCons_len (aCons_len (aCons_len aNil_len))) (r_acons (r_var (pv 0)) (r_acons r_int (r_acons (r_var (pv 1)) r_anil)))))) r_nil)
    (r_cons (r_ifS (q_cmpT (c_eq (u64 hr)) (r_var (pv 2)) r_int) (r_one (r_ret (r_call (G__law_sided.mono (by omega)) hr (by rfl) (aCons_len (aCons_len (aCons_len aNil_len))) (r_acons (r_var (pv 0)) (r_acons r_int (r_acons (r_var (pv 1)) r_anil)))))) r_nil)
    (r_cons (r_set (i := 3) sc__law_any.nd rfl (by first | exact Or.inl rfl | exact Or.inr rfl) (q_add r_int (r_call (G__law_take.mono (by omega)) hr (by rfl) (aCons_len (aCons_len aNil_len)) (r_acons (r_var (pv 0)) (r_acons r_int r_anil)))) rfl (by first | exact .inl rfl | exact .inr rfl))
    (r_cons (r_set (i := 4) sc__law_any.nd rfl (by first | exact Or.inl rfl | exact Or.inr rfl) (r_lstO r_anil) rfl (by first | exact .inl rfl | exact .inr rfl))
    (r_cons (r_for PassesOwn.never rfl (r_range1 (by rfl) T.z_range (r_call (G__law_take.mono (by omega)) hr (by rfl) (aCons_len (aCons_len aNil_len)) (r_acons (r_var (pv 0)) (r_acons (q_add (r_var (pv 1)) r_int) r_anil)))) (pg_name (i := 5) sc__law_any.nd rfl (by first | exact Or.inl rfl | exact Or.inr rfl)) (tgOk_name (i := 5) (vs := [5]) (by decide)) (r_cons (r_set (i := 6) sc__law_any.nd rfl (by first | exact Or.inl rfl | exact Or.inr rfl) (r_call (G__law_take.mono (by omega)) hr (by rfl) (aCons_len (aCons_len aNil_len)) (r_acons (r_var (pv 0)) (r_acons (q_sub (r_var (pv 3)) r_int) r_anil))) rfl (by first | exact .inl rfl | exact .inr rfl))
    (r_one (r_expr (r_app (r_var (pv 4)) (r_tup (r_acons (r_var (pv 6)) (r_acons (q_add (q_add (r_var (pv 6)) r_int) (r_call (G__law_take.mono (by omega)) hr (by rfl) (aCons_len (aCons_len aNil_len)) (r_acons (r_var (pv 0)) (r_acons (q_sub (q_sub (r_var (pv 3)) r_int) (r_var (pv 6))) r_anil)))) r_anil))))))))
    (r_one (r_ret (r_tup (r_acons (r_var (pv 3)) (r_acons (q_tuple T.z_tuple (r_var (pv 4))) r_anil)))))))))))
abbrev s__law_few : Stmt := topS 41
theorem sc__law_few : FnScope ["deal", "people", "meetings", "turn", "a"] ["deal"] (defScope s__law_few) := ⟨rfl, rfl, rfl, by decide +kernel, rfl, by decide +kernel, by decide +kernel⟩
theorem ok__law_few {a : Addr} {fd : FuncData} (T : Tops K mg) (Z : At K mg "_law_few" ["deal"] s__law_few a fd) (G__law_take : Fn P w K mg base 1 "_law_take" 2 m__law_take) : Fn P w K mg base 2 "_law_few" 1 m__law_few := by
  refine fn_at (lev := 1) (n := 1) (k := 4) (body := b__law_few) Z sc__law_few rfl rfl ?_
  intro cdv A outer s H E hr
  exact (r_cons (r_set (i := 1) sc__law_few.nd rfl (by first | exact Or.inl rfl | exact Or.inr rfl) (q_sub r_int (r_call (G__law_take.mono (by omega)) hr (by rfl) (aCons_len (aCons_len aNil_len)) (r_acons (r_var (pv 0)) (r_acons r_int r_anil)))) rfl (by first | exact .inl rfl | exact .inr rfl))
    (r_cons (r_set (i := 2) sc__law_few.nd rfl (by first | exact Or.inl rfl | exact Or.inr rfl) (r_lstO r_anil) rfl (by first | exact .inl rfl | exact .inr rfl))
    (r_cons (r_for PassesOwn.never rfl (r_range1 (by rfl) T.z_range (r_call (G__law_take.mono (by omega)) hr (by rfl) (aCons_len (aCons_len aNil_len)) (r_acons (r_var (pv 0)) (r_acons r_int r_anil)))) (pg_name (i := 3) sc__law_few.nd rfl (by first | exact Or.inl rfl | exact Or.inr rfl)) (tgOk_name (i := 3) (vs := [3]) (by decide)) (r_one (r_ifS (q_cmpT c_gt (r_var (pv 1)) r_int) (r_cons (r_set (i := 4) sc__law_few.nd rfl (by first | exact Or.inl rfl | exact Or.inr rfl) (r_call (G__law_take.mono (by omega)) hr (by rfl) (aCons_len (aCons_len aNil_len)) (r_acons (r_var (pv 0)) (r_acons (q_sub (r_var (pv 1)) r_int) r_anil))) rfl (by first | exact .inl rfl | exact .inr rfl))
    (r_one (r_expr (r_app (r_var (pv 2)) (r_tup (r_acons (r_var (pv 4)) (r_acons (q_add (q_add (r_var (pv 4)) r_int) (r_call (G__law_take.mono (by omega)) hr (by rfl) (aCons_len (aCons_len aNil_len)) (r_acons (r_var (pv 0)) (r_acons (q_sub (q_sub (r_var (pv 1)) r_int) (r_var (pv 4))) r_anil)))) r_anil))))))) r_nil)))
    (r_one (r_ret (r_tup (r_acons (r_var (pv 1)) (r_acons (q_tuple T.z_tuple (r_var (pv 2))) r_anil))))))))
abbrev s__law_web : Stmt := topS 42
theorem sc__law_web : FnScope ["deal", "limit"] ["deal", "limit"] (defScope s__law_web) := ⟨rfl, rfl, rfl, by decide +kernel, rfl, by decide +kernel, by decide +kernel⟩
theorem ok__law_web {a : Addr} {fd : FuncData} (T : Tops K mg) (Z : At K mg "_law_web" ["deal", "limit"] s__law_web a fd) (G__law_any : Fn P w K mg base 3 "_law_any" 2 m__law_any) (G__law_few : Fn P w K mg base 2 "_law_few" 1 m__law_few) (G__law_take : Fn P w K mg base 1 "_law_take" 2 m__law_take) : Fn P w K mg base 4 "_law_web" 2 m__law_web := by
  refine fn_at (lev := 3) (n := 2) (k := 0) (body := b__law_web) Z sc__law_web rfl rfl ?_
  intro cdv A outer s H E hr
  exact (r_one (r_ret (r_if (q_cmpT (c_eq (u64 hr)) (r_call (G__law_take.mono (by omega)) hr (by rfl) (aCons_len (aCons_len aNil_len)) (r_acons (r_var (pv 0)) (r_acons r_int r_anil))) r_int) (r_call (G__law_few.mono (by omega)) hr (by rfl) (aCons_len aNil_len) (r_acons (r_var (pv 0)) r_anil)) (r_call (G__law_any.mono (by omega)) hr (by rfl) (aCons_len (aCons_len aNil_len)) (r_acons (r_var (pv 0)) (r_acons (r_var (pv 1)) r_anil))))))
abbrev s__law_load : Stmt := topS 43
theorem sc__law_load : FnScope ["web", "loads", "p", "pair"] ["web"] (defScope s__law_load) := ⟨rfl, rfl, rfl, by decide +kernel, rfl, by decide +kernel, by decide +kernel⟩
theorem ok__law_load {a : Addr} {fd : FuncData} (T : Tops K mg) (Z : At K mg "_law_load" ["web"] s__law_load a fd) : Fn P w K mg base 1 "_law_load" 1 m__law_load := by
  refine fn_at (lev := 0) (n := 1) (k := 3) (body := b__law_load) Z sc__law_load rfl rfl ?_
  intro cdv A outer s H E hr
  exact (r_cons (r_setLc (i := 1) (own := [("p", 2)]) rfl sc__law_load.nd rfl rfl (sw_true rfl rfl rfl (by decide +kernel)) (r_range1 (by rfl) T.z_range (q_ix (r_var (pv 0)) r_int)) (blkOk_by (by kernel_rfl)) (tgOk_name (i := 2) (vs := [2]) (by decide)) (fun _ _ _ _ _ => (pg_name (i := 2) sc__law_load.nd rfl (by first | exact Or.inl rfl | exact Or.inr rfl))) (fun _ _ _ _ _ => r_ifs0) (fun _ _ _ _ _ => (q_len T.z_len (r_lc (own := [("pair", 3)]) rfl sc__law_load.nd (r_iter (q_ix (r_var (pv 0)) r_int)) (blkOk_by (by kernel_rfl)) (tgOk_name (i := 3) (vs := [3]) (by decide)) (fun _ _ _ _ _ => (pg_name (i := 3) sc__law_load.nd rfl (by first | exact Or.inl rfl | exact Or.inr rfl))) (fun _ _ _ _ _ => (r_ifs1 (q_cmpT (c_in (u65 hr)) (r_var (pv 2)) (r_var (pv 3))))) (fun _ _ _ _ _ => r_int)))))
    (r_one (r_ret (r_if (q_cmpT c_gt (q_len T.z_len (r_var (pv 1))) r_int) (q_max rfl T.z_max (r_var (pv 1))) r_int))))
abbrev s__law_counts : Stmt := topS 44
theorem sc__law_counts : FnScope ["plan", "k", "c", "day"] ["plan", "k"] (defScope s__law_counts) := ⟨rfl, rfl, rfl, by decide +kernel, rfl, by decide +kernel, by decide +kernel⟩
theorem ok__law_counts {a : Addr} {fd : FuncData} (T : Tops K mg) (Z : At K mg "_law_counts" ["plan", "k"] s__law_counts a fd) : Fn P w K mg base 1 "_law_counts" 2 m__law_counts := by
  refine fn_at (lev := 0) (n := 2) (k := 2) (body := b__law_counts) Z sc__law_counts rfl rfl ?_
  intro cdv A outer s H E hr
  exact (r_one (r_ret (r_lc (own := [("c", 2)]) rfl sc__law_counts.nd (r_range1 (by rfl) T.z_range (r_var (pv 1))) (blkOk_by (by kernel_rfl)) (tgOk_name (i := 2) (vs := [2]) (by decide)) (fun _ _ _ _ _ => (pg_name (i := 2) sc__law_counts.nd rfl (by first | exact Or.inl rfl | exact Or.inr rfl))) (fun _ _ _ _ _ => r_ifs0) (fun _ _ _ _ _ => (q_len T.z_len (r_lc (own := [("day", 3)]) rfl sc__law_counts.nd (r_iter (r_var (pv 0))) (blkOk_by (by kernel_rfl)) (tgOk_name (i := 3) (vs := [3]) (by decide)) (fun _ _ _ _ _ => (pg_name (i := 3) sc__law_counts.nd rfl (by first | exact Or.inl rfl | exact Or.inr rfl))) (fun _ _ _ _ _ => (r_ifs1 (q_cmpT (c_eq (u64 hr)) (r_var (pv 3)) (r_var (pv 2))))) (fun _ _ _ _ _ => r_int)))))))
abbrev s__law_clash : Stmt := topS 45
theorem sc__law_clash : FnScope ["web", "i", "j"] ["web", "i", "j"] (defScope s__law_clash) := ⟨rfl, rfl, rfl, by decide +kernel, rfl, by decide +kernel, by decide +kernel⟩
theorem ok__law_clash {a : Addr} {fd : FuncData} (T : Tops K mg) (Z : At K mg "_law_clash" ["web", "i", "j"] s__law_clash a fd) : Fn P w K mg base 1 "_law_clash" 3 m__law_clash := by
  refine fn_at (lev := 0) (n := 3) (k := 0) (body := b__law_clash) Z sc__law_clash rfl rfl ?_
  intro cdv A outer s H E hr
  exact (r_one (r_ret (r_eor (q_cmp (c_in (u65 hr)) (q_ix (q_ix (q_ix (r_var (pv 0)) r_int) (r_var (pv 1))) r_int) (q_ix (q_ix (r_var (pv 0)) r_int) (r_var (pv 2)))) (r_eone (q_cmp (c_in (u65 hr)) (q_ix (q_ix (q_ix (r_var (pv 0)) r_int) (r_var (pv 1))) r_int) (q_ix (q_ix (r_var (pv 0)) r_int) (r_var (pv 2))))))))
abbrev s__law_laid : Stmt := topS 46
theorem sc__law_laid : FnScope ["deal", "web", "k", "plan", "i", "taken", "j", "day"] ["deal", "web", "k"] (defScope s__law_laid) := ⟨rfl, rfl, rfl, by decide +kernel, rfl, by decide +kernel, by decide +kernel⟩
theorem ok__law_laid {a : Addr} {fd : FuncData} (T : Tops K mg) (Z : At K mg "_law_laid" ["deal", "web", "k"] s__law_laid a fd) (G__law_clash : Fn P w K mg base 1 "_law_clash" 3 m__law_clash) (G__law_pick : Fn P w K mg base 2 "_law_pick" 2 m__law_pick) : Fn P w K mg base 3 "_law_laid" 3 m__law_laid := by
  refine fn_at (lev := 2) (n := 3) (k := 5) (body := b__law_laid) Z sc__law_laid rfl rfl ?_
  intro cdv A outer s H E hr
  exact (r_cons (r_set (i := 3) sc__law_laid.nd rfl (by first | exact Or.inl rfl | exact Or.inr rfl) (r_tup r_anil) rfl (by first | exact .inl rfl | exact .inr rfl))
    (r_cons (r_for PassesOwn.never rfl (r_range1 (by rfl) T.z_range (q_len T.z_len (q_ix (r_var (pv 1)) r_int))) (pg_name (i := 4) sc__law_laid.nd rfl (by first | exact Or.inl rfl | exact Or.inr rfl)) (tgOk_name (i := 4) (vs := [4]) (by decide)) (r_cons (r_set (i := 5) sc__law_laid.nd rfl (by first | exact Or.inl rfl | exact Or.inr rfl) (r_lc (own := [("j", 6)]) rfl sc__law_laid.nd (r_range1 (by rfl) T.z_range (r_var (pv 4))) (blkOk_by (by kernel_rfl)) (tgOk_name (i := 6) (vs := [6]) (by decide)) (fun _ _ _ _ _ => (pg_name (i := 6) sc__law_laid.nd rfl (by first | exact Or.inl rfl | exact Or.inr rfl))) (fun _ _ _ _ _ => (r_ifs1 (r_val (r_call (G__law_clash.mono (by omega)) hr (by rfl) (aCons_len (aCons_len (aCons_len aNil_len))) (r_acons (r_var (pv 1)) (r_acons (r_var (pv 4)) (r_acons (r_var (pv 6)) r_anil))))))) (fun _ _ _ _ _ => (q_ix (r_var (pv 3)) (r_var (pv 6))))) rfl (by first | exact .inl rfl | exact .inr rfl))
    (r_one (r_set (i := 3) sc__law_laid.nd rfl (by first | exact Or.inl rfl | exact Or.inr rfl) (q_add (r_var (pv 3)) (r_tup (r_acons (r_call (G__law_pick.mono (by omega)) hr (by rfl) (aCons_len (aCons_len aNil_len)) (r_acons (r_var (pv 0)) (r_acons (r_lc (own := [("day", 7)]) rfl sc__law_laid.nd (r_range1 (by rfl) T.z_range (r_var (pv 2))) (blkOk_by (by kernel_rfl)) (tgOk_name (i := 7) (vs := [7]) (by decide)) (fun _ _ _ _ _ => (pg_name (i := 7) sc__law_laid.nd rfl (by first | exact Or.inl rfl | exact Or.inr rfl))) (fun _ _ _ _ _ => (r_ifs1 (q_cmpT (c_nin (u65 hr)) (r_var (pv 7)) (r_var (pv 5))))) (fun _ _ _ _ _ => (r_var (pv 7)))) r_anil))) r_anil))) rfl (by first | exact .inl rfl | exact .inr rfl)))))
    (r_one (r_ret (r_var (pv 3))))))
abbrev s__law_is_right : Stmt := topS 47
theorem sc__law_is_right : FnScope ["web", "plan", "k", "i", "day", "j"] ["web", "plan", "k"] (defScope s__law_is_right) := ⟨rfl, rfl, rfl, by decide +kernel, rfl, by decide +kernel, by decide +kernel⟩
theorem ok__law_is_right {a : Addr} {fd : FuncData} (T : Tops K mg) (Z : At K mg "_law_is_right" ["web", "plan", "k"] s__law_is_right a fd) (G__law_clash : Fn P w K mg base 1 "_law_clash" 3 m__law_clash) : Fn P w K mg base 2 "_law_is_right" 3 m__law_is_right := by
  refine fn_at (lev := 1) (n := 3) (k := 3) (body := b__law_is_right) Z sc__law_is_right rfl rfl ?_
  intro cdv A outer s H E hr
  exact (r_cons (r_ifS (r_or (q_cmpT (c_ne (u64 hr)) (q_len T.z_len (r_var (pv 1))) (q_len T.z_len (q_ix (r_var (pv 0)) r_int))) (r_or1 (q_cmpT c_gt (q_len T.z_len (r_lc (own := [("day", 4)]) rfl sc__law_is_right.nd (r_iter (r_var (pv 1))) (blkOk_by (by kernel_rfl)) (tgOk_name (i := 4) (vs := [4]) (by decide)) (fun _ _ _ _ _ => (pg_name (i := 4) sc__law_is_right.nd rfl (by first | exact Or.inl rfl | exact Or.inr rfl))) (fun _ _ _ _ _ => (r_ifs1 (r_not (q_chainT c_le c_lt r_int (r_var (pv 4)) (r_var (pv 2)))))) (fun _ _ _ _ _ => r_int))) r_int))).pt (r_one (r_ret r_bl)) r_nil)
    (r_cons (r_for PassesOwn.never rfl (r_range1 (by rfl) T.z_range (q_len T.z_len (r_var (pv 1)))) (pg_name (i := 3) sc__law_is_right.nd rfl (by first | exact Or.inl rfl | exact Or.inr rfl)) (tgOk_name (i := 3) (vs := [3]) (by decide)) (r_one (r_ifS (q_cmpT c_gt (q_len T.z_len (r_lc (own := [("j", 5)]) rfl sc__law_is_right.nd (r_range1 (by rfl) T.z_range (r_var (pv 3))) (blkOk_by (by kernel_rfl)) (tgOk_name (i := 5) (vs := [5]) (by decide)) (fun _ _ _ _ _ => (pg_name (i := 5) sc__law_is_right.nd rfl (by first | exact Or.inl rfl | exact Or.inr rfl))) (fun _ _ _ _ _ => (r_ifs1 (r_and (q_cmpT (c_eq (u64 hr)) (q_ix (r_var (pv 1)) (r_var (pv 3))) (q_ix (r_var (pv 1)) (r_var (pv 5)))) (r_and1 (r_val (r_call (G__law_clash.mono (by omega)) hr (by rfl) (aCons_len (aCons_len (aCons_len aNil_len))) (r_acons (r_var (pv 0)) (r_acons (r_var (pv 3)) (r_acons (r_var (pv 5)) r_anil))))))).pt)) (fun _ _ _ _ _ => r_int))) r_int) (r_one (r_ret r_bl)) r_nil)))
    (r_one (r_ret r_bl))))
abbrev s__law_changed : Stmt := topS 48
theorem sc__law_changed : FnScope ["deal", "web", "plan", "k", "changed", "at", "day", "j"] ["deal", "web", "plan", "k"] (defScope s__law_changed) := ⟨rfl, rfl, rfl, by decide +kernel, rfl, by decide +kernel, by decide +kernel⟩
theorem ok__law_changed {a : Addr} {fd : FuncData} (T : Tops K mg) (Z : At K mg "_law_changed" ["deal", "web", "plan", "k"] s__law_changed a fd) (G__law_clash : Fn P w K mg base 1 "_law_clash" 3 m__law_clash) (G__law_take : Fn P w K mg base 1 "_law_take" 2 m__law_take) : Fn P w K mg base 2 "_law_changed" 4 m__law_changed := by
  refine fn_at (lev := 1) (n := 4) (k := 4) (body := b__law_changed) Z sc__law_changed rfl rfl ?_
  intro cdv A outer s H E hr
  exact (r_cons (r_set (i := 4) sc__law_changed.nd rfl (by first | exact Or.inl rfl | exact Or.inr rfl) (r_lstO (r_acons (r_var (pv 2)) (r_acons (r_sl (r_var (pv 2)) (r_osome r_int) r_onone) (r_acons (q_add (r_var (pv 2)) (r_tup (r_acons r_int r_anil))) (r_acons (r_rev (r_var (pv 2))) (r_acons (q_tuple T.z_tuple (q_mul (r_lst (r_acons r_int r_anil)) (q_len T.z_len (r_var (pv 2))))) r_anil)))))) rfl (by first | exact .inl rfl | exact .inr rfl))
    (r_cons (r_ifS (q_cmpT c_gt (q_len T.z_len (r_var (pv 2))) r_int) (r_cons (r_set (i := 5) sc__law_changed.nd rfl (by first | exact Or.inl rfl | exact Or.inr rfl) (r_call (G__law_take.mono (by omega)) hr (by rfl) (aCons_len (aCons_len aNil_len)) (r_acons (r_var (pv 0)) (r_acons (q_len T.z_len (r_var (pv 2))) r_anil))) rfl (by first | exact .inl rfl | exact .inr rfl))
    (r_cons (r_for PassesOwn.never rfl (r_iter (r_lst (r_acons (r_neg r_int) (r_acons (r_var (pv 3)) (r_acons (q_sub (r_var (pv 3)) r_int) (r_acons (r_call (G__law_take.mono (by omega)) hr (by rfl) (aCons_len (aCons_len aNil_len)) (r_acons (r_var (pv 0)) (r_acons (r_var (pv 3)) r_anil))) (r_acons (q_mod (q_add (q_ix (r_var (pv 2)) (r_var (pv 5))) r_int) (r_var (pv 3))) r_anil))))))) (pg_name (i := 6) sc__law_changed.nd rfl (by first | exact Or.inl rfl | exact Or.inr rfl)) (tgOk_name (i := 6) (vs := [6]) (by decide)) (r_one (r_expr (r_app (r_var (pv 4)) (q_add (q_add (r_sl (r_var (pv 2)) r_onone (r_osome (r_var (pv 5)))) (r_tup (r_acons (r_var (pv 6)) r_anil))) (r_sl (r_var (pv 2)) (r_osome (q_add (r_var (pv 5)) r_int)) r_onone))))))
    (r_one (r_for PassesOwn.never rfl (r_range1 (by rfl) T.z_range (q_len T.z_len (r_var (pv 2)))) (pg_name (i := 7) sc__law_changed.nd rfl (by first | exact Or.inl rfl | exact Or.inr rfl)) (tgOk_name (i := 7) (vs := [7]) (by decide)) (r_one (r_ifS (r_and (q_cmpT (c_ne (u64 hr)) (r_var (pv 7)) (r_var (pv 5))) (r_and1 (r_val (r_call (G__law_clash.mono (by omega)) hr (by rfl) (aCons_len (aCons_len (aCons_len aNil_len))) (r_acons (r_var (pv 1)) (r_acons (r_var (pv 5)) (r_acons (r_var (pv 7)) r_anil))))))).pt (r_one (r_expr (r_app (r_var (pv 4)) (q_add (q_add (r_sl (r_var (pv 2)) r_onone (r_osome (r_var (pv 5)))) (r_tup (r_acons (q_ix (r_var (pv 2)) (r_var (pv 7))) r_anil))) (r_sl (r_var (pv 2)) (r_osome (q_add (r_var (pv 5)) r_int)) r_onone))))) r_nil)))))) r_nil)
    (r_one (r_ret (r_var (pv 4))))))
abbrev s__law_rooms : Stmt := topS 49
theorem sc__law_rooms : FnScope ["web", "plan", "k", "counts", "right", "r"] ["web", "plan", "k"] (defScope s__law_rooms) := ⟨rfl, rfl, rfl, by decide +kernel, rfl, by decide +kernel, by decide +kernel⟩
theorem ok__law_rooms {a : Addr} {fd : FuncData} (T : Tops K mg) (Z : At K mg "_law_rooms" ["web", "plan", "k"] s__law_rooms a fd) (G__law_bool : Fn P w K mg base 1 "_law_bool" 2 m__law_bool) (G__law_counts : Fn P w K mg base 1 "_law_counts" 2 m__law_counts) (G__law_is_right : Fn P w K mg base 2 "_law_is_right" 3 m__law_is_right) (G__law_same : Fn P w K mg base 7 "_law_same" 2 (m__law_same 6)) (G_day_counts : Fn P w K mg base 1 "day_counts" 2 m_day_counts) (G_is_even : Fn P w K mg base 2 "is_even" 2 m_is_even) (G_shows_rooms : Fn P w K mg base 3 "shows_rooms" 4 m_shows_rooms) : Fn P w K mg base 8 "_law_rooms" 3 m__law_rooms := by
  refine fn_at (lev := 7) (n := 3) (k := 3) (body := b__law_rooms) Z sc__law_rooms rfl rfl ?_
  intro cdv A outer s H E hr
  exact (r_cons (r_set (i := 3) sc__law_rooms.nd rfl (by first | exact Or.inl rfl | exact Or.inr rfl) (r_call (G__law_counts.mono (by omega)) hr (by rfl) (aCons_len (aCons_len aNil_len)) (r_acons (r_var (pv 1)) (r_acons (r_var (pv 2)) r_anil))) rfl (by first | exact .inl rfl | exact .inr rfl))
    (r_cons (r_set (i := 4) sc__law_rooms.nd rfl (by first | exact Or.inl rfl | exact Or.inr rfl) (r_call (G__law_is_right.mono (by omega)) hr (by rfl) (aCons_len (aCons_len (aCons_len aNil_len))) (r_acons (r_var (pv 0)) (r_acons (r_var (pv 1)) (r_acons (r_var (pv 2)) r_anil)))) rfl (by first | exact .inl rfl | exact .inr rfl))
    (r_cons (r_for PassesOwn.never rfl (r_iter (q_add (r_lst (r_acons r_int (r_acons (q_max rfl T.z_max (r_var (pv 3))) (r_acons (q_add (q_max rfl T.z_max (r_var (pv 3))) r_int) (r_acons r_int r_anil))))) (r_if (q_cmpT c_gt (q_max rfl T.z_max (r_var (pv 3))) r_int) (r_lst (r_acons (q_sub (q_max rfl T.z_max (r_var (pv 3))) r_int) r_anil)) (r_lst r_anil)))) (pg_name (i := 5) sc__law_rooms.nd rfl (by first | exact Or.inl rfl | exact Or.inr rfl)) (tgOk_name (i := 5) (vs := [5]) (by decide)) (r_one (r_ifS (r_not (r_val (r_call (G__law_bool.mono (by omega)) hr (by rfl) (aCons_len (aCons_len aNil_len)) (r_acons (r_call (G_shows_rooms.mono (by omega)) hr (by rfl) (aCons_len (aCons_len (aCons_len (aCons_len aNil_len)))) (r_acons (r_var (pv 0)) (r_acons (r_var (pv 2)) (r_acons (r_var (pv 5)) (r_acons (r_var (pv 1)) r_anil))))) (r_acons (r_eand (r_var (pv 4)) (r_eone (q_cmp c_le (q_max rfl T.z_max (r_var (pv 3))) (r_var (pv 5))))) r_anil))))) (r_one (r_ret r_bl)) r_nil)))
    (r_cons (r_ifS (r_not (r_val (r_call (G__law_same.mono (by omega)) hr (by rfl) (aCons_len (aCons_len aNil_len)) (r_acons (r_call (G_day_counts.mono (by omega)) hr (by rfl) (aCons_len (aCons_len aNil_len)) (r_acons (r_var (pv 1)) (r_acons (r_var (pv 2)) r_anil))) (r_acons (r_var (pv 3)) r_anil))))) (r_one (r_ret r_bl)) r_nil)
    (r_one (r_ret (r_call (G__law_bool.mono (by omega)) hr (by rfl) (aCons_len (aCons_len aNil_len)) (r_acons (r_call (G_is_even.mono (by omega)) hr (by rfl) (aCons_len (aCons_len aNil_len)) (r_acons (r_var (pv 1)) (r_acons (r_var (pv 2)) r_anil))) (r_acons (q_cmp c_lt (q_sub (q_max rfl T.z_max (r_var (pv 3))) (q_min rfl T.z_min (r_var (pv 3)))) r_int) r_anil)))))))))
abbrev s__law_even : Stmt := topS 50
theorem sc__law_even : FnScope ["deal", "k", "many", "days", "at", "more", "plan", "counts", "day"] ["deal"] (defScope s__law_even) := ⟨rfl, rfl, rfl, by decide +kernel, rfl, by decide +kernel, by decide +kernel⟩
theorem ok__law_even {a : Addr} {fd : FuncData} (T : Tops K mg) (Z : At K mg "_law_even" ["deal"] s__law_even a fd) (G__law_bool : Fn P w K mg base 1 "_law_bool" 2 m__law_bool) (G__law_counts : Fn P w K mg base 1 "_law_counts" 2 m__law_counts) (G__law_take : Fn P w K mg base 1 "_law_take" 2 m__law_take) (G_is_even : Fn P w K mg base 2 "is_even" 2 m_is_even) : Fn P w K mg base 3 "_law_even" 1 m__law_even := by
  refine fn_at (lev := 2) (n := 1) (k := 8) (body := b__law_even) Z sc__law_even rfl rfl ?_
  intro cdv A outer s H E hr
  exact (r_cons (r_set (i := 1) sc__law_even.nd rfl (by first | exact Or.inl rfl | exact Or.inr rfl) (q_add r_int (r_call (G__law_take.mono (by omega)) hr (by rfl) (aCons_len (aCons_len aNil_len)) (r_acons (r_var (pv 0)) (r_acons r_int r_anil)))) rfl (by first | exact .inl rfl | exact .inr rfl))
    (r_cons (r_set (i := 2) sc__law_even.nd rfl (by first | exact Or.inl rfl | exact Or.inr rfl) (q_add r_int (r_call (G__law_take.mono (by omega)) hr (by rfl) (aCons_len (aCons_len aNil_len)) (r_acons (r_var (pv 0)) (r_acons r_int r_anil)))) rfl (by first | exact .inl rfl | exact .inr rfl))
    (r_cons (r_set (i := 3) sc__law_even.nd rfl (by first | exact Or.inl rfl | exact Or.inr rfl) (q_tuple T.z_tuple (q_mul (r_listRg rfl (by rfl) T.z_list (by rfl) T.z_range (r_var (pv 1))) (r_var (pv 2)))) rfl (by first | exact .inl rfl | exact .inr rfl))
    (r_cons (r_set (i := 4) sc__law_even.nd rfl (by first | exact Or.inl rfl | exact Or.inr rfl) (r_call (G__law_take.mono (by omega)) hr (by rfl) (aCons_len (aCons_len aNil_len)) (r_acons (r_var (pv 0)) (r_acons (r_var (pv 1)) r_anil))) rfl (by first | exact .inl rfl | exact .inr rfl))
    (r_cons (r_set (i := 5) sc__law_even.nd rfl (by first | exact Or.inl rfl | exact Or.inr rfl) (q_mod (q_add (r_var (pv 4)) r_int) (r_var (pv 1))) rfl (by first | exact .inl rfl | exact .inr rfl))
    (r_cons (r_for PassesOwn.never rfl (r_iter (r_lst (r_acons (r_var (pv 3)) (r_acons (q_add (r_var (pv 3)) (r_tup (r_acons (r_var (pv 4)) r_anil))) (r_acons (q_add (r_var (pv 3)) (r_tup (r_acons (r_var (pv 4)) (r_acons (r_var (pv 5)) r_anil)))) (r_acons (q_add (r_var (pv 3)) (r_tup (r_acons (r_var (pv 4)) (r_acons (r_var (pv 4)) r_anil)))) (r_acons (q_tuple T.z_tuple (r_lc (own := [("day", 8)]) rfl sc__law_even.nd (r_iter (r_var (pv 3))) (blkOk_by (by kernel_rfl)) (tgOk_name (i := 8) (vs := [8]) (by decide)) (fun _ _ _ _ _ => (pg_name (i := 8) sc__law_even.nd rfl (by first | exact Or.inl rfl | exact Or.inr rfl))) (fun _ _ _ _ _ => (r_ifs1 (q_cmpT (c_ne (u64 hr)) (r_var (pv 8)) (r_var (pv 4))))) (fun _ _ _ _ _ => (r_var (pv 8))))) r_anil))))))) (pg_name (i := 6) sc__law_even.nd rfl (by first | exact Or.inl rfl | exact Or.inr rfl)) (tgOk_name (i := 6) (vs := [6]) (by decide)) (r_cons (r_set (i := 7) sc__law_even.nd rfl (by first | exact Or.inl rfl | exact Or.inr rfl) (r_call (G__law_counts.mono (by omega)) hr (by rfl) (aCons_len (aCons_len aNil_len)) (r_acons (r_var (pv 6)) (r_acons (r_var (pv 1)) r_anil))) rfl (by first | exact .inl rfl | exact .inr rfl))
    (r_one (r_ifS (r_not (r_val (r_call (G__law_bool.mono (by omega)) hr (by rfl) (aCons_len (aCons_len aNil_len)) (r_acons (r_call (G_is_even.mono (by omega)) hr (by rfl) (aCons_len (aCons_len aNil_len)) (r_acons (r_var (pv 6)) (r_acons (r_var (pv 1)) r_anil))) (r_acons (q_cmp c_lt (q_sub (q_max rfl T.z_max (r_var (pv 7))) (q_min rfl T.z_min (r_var (pv 7)))) r_int) r_anil))))) (r_one (r_ret r_bl)) r_nil))))
    (r_one (r_ret (r_eand (r_call (G__law_bool.mono (by omega)) hr (by rfl) (aCons_len (aCons_len aNil_len)) (r_acons (r_call (G_is_even.mono (by omega)) hr (by rfl) (aCons_len (aCons_len aNil_len)) (r_acons (q_add (r_var (pv 3)) (r_tup (r_acons (r_var (pv 4)) r_anil))) (r_acons (r_var (pv 1)) r_anil))) (r_acons r_bl r_anil))) (r_eone (r_call (G__law_bool.mono (by omega)) hr (by rfl) (aCons_len (aCons_len aNil_len)) (r_acons (r_call (G_is_even.mono (by omega)) hr (by rfl) (aCons_len (aCons_len aNil_len)) (r_acons (q_add (r_var (pv 3)) (r_tup (r_acons (r_var (pv 4)) (r_acons (r_var (pv 4)) r_anil)))) (r_acons (r_var (pv 1)) r_anil))) (r_acons (q_cmp (c_eq (u64 hr)) (r_var (pv 1)) r_int) r_anil)))))))))))))
abbrev s__law_level : Stmt := topS 51
theorem sc__law_level : FnScope ["web", "numbers", "k", "p", "mine", "counts", "i", "number"] ["web", "numbers", "k"] (defScope s__law_level) := ⟨rfl, rfl, rfl, by decide +kernel, rfl, by decide +kernel, by decide +kernel⟩
theorem ok__law_level {a : Addr} {fd : FuncData} (T : Tops K mg) (Z : At K mg "_law_level" ["web", "numbers", "k"] s__law_level a fd) (G__law_counts : Fn P w K mg base 1 "_law_counts" 2 m__law_counts) : Fn P w K mg base 2 "_law_level" 3 m__law_level := by
  refine fn_at (lev := 1) (n := 3) (k := 5) (body := b__law_level) Z sc__law_level rfl rfl ?_
  intro cdv A outer s H E hr
  exact (r_cons (r_ifS (r_or (q_cmpT (c_ne (u64 hr)) (q_len T.z_len (r_var (pv 1))) (q_len T.z_len (q_ix (r_var (pv 0)) r_int))) (r_or1 (q_cmpT c_gt (q_len T.z_len (r_lc (own := [("number", 7)]) rfl sc__law_level.nd (r_iter (r_var (pv 1))) (blkOk_by (by kernel_rfl)) (tgOk_name (i := 7) (vs := [7]) (by decide)) (fun _ _ _ _ _ => (pg_name (i := 7) sc__law_level.nd rfl (by first | exact Or.inl rfl | exact Or.inr rfl))) (fun _ _ _ _ _ => (r_ifs1 (r_not (q_chainT c_le c_lt r_int (r_var (pv 7)) (r_var (pv 2)))))) (fun _ _ _ _ _ => r_int))) r_int))).pt (r_one (r_ret r_bl)) r_nil)
    (r_cons (r_for PassesOwn.never rfl (r_range1 (by rfl) T.z_range (q_ix (r_var (pv 0)) r_int)) (pg_name (i := 3) sc__law_level.nd rfl (by first | exact Or.inl rfl | exact Or.inr rfl)) (tgOk_name (i := 3) (vs := [3]) (by decide)) (r_cons (r_setLc (i := 4) (own := [("i", 6)]) rfl sc__law_level.nd rfl rfl (sw_true rfl rfl rfl (by decide +kernel)) (r_range1 (by rfl) T.z_range (q_len T.z_len (r_var (pv 1)))) (blkOk_by (by kernel_rfl)) (tgOk_name (i := 6) (vs := [6]) (by decide)) (fun _ _ _ _ _ => (pg_name (i := 6) sc__law_level.nd rfl (by first | exact Or.inl rfl | exact Or.inr rfl))) (fun _ _ _ _ _ => (r_ifs1 (q_cmpT (c_in (u65 hr)) (r_var (pv 3)) (q_ix (q_ix (r_var (pv 0)) r_int) (r_var (pv 6)))))) (fun _ _ _ _ _ => (q_ix (r_var (pv 1)) (r_var (pv 6)))))
    (r_cons (r_set (i := 5) sc__law_level.nd rfl (by first | exact Or.inl rfl | exact Or.inr rfl) (r_call (G__law_counts.mono (by omega)) hr (by rfl) (aCons_len (aCons_len aNil_len)) (r_acons (r_var (pv 4)) (r_acons (r_var (pv 2)) r_anil))) rfl (by first | exact .inl rfl | exact .inr rfl))
    (r_one (r_ifS (q_cmpT c_gt (q_sub (q_max rfl T.z_max (r_var (pv 5))) (q_min rfl T.z_min (r_var (pv 5)))) r_int) (r_one (r_ret r_bl)) r_nil)))))
    (r_one (r_ret r_bl))))
abbrev s__law_weeks : Stmt := topS 52
theorem sc__law_weeks : FnScope ["deal", "web", "plan", "k", "span", "numbers", "many", "one", "weeks", "day"] ["deal", "web", "plan", "k"] (defScope s__law_weeks) := ⟨rfl, rfl, rfl, by decide +kernel, rfl, by decide +kernel, by decide +kernel⟩
theorem ok__law_weeks {a : Addr} {fd : FuncData} (T : Tops K mg) (Z : At K mg "_law_weeks" ["deal", "web", "plan", "k"] s__law_weeks a fd) (G__law_bool : Fn P w K mg base 1 "_law_bool" 2 m__law_bool) (G__law_changed : Fn P w K mg base 2 "_law_changed" 4 m__law_changed) (G__law_level : Fn P w K mg base 2 "_law_level" 3 m__law_level) (G_are_level : Fn P w K mg base 2 "are_level" 3 m_are_level) : Fn P w K mg base 3 "_law_weeks" 4 m__law_weeks := by
  refine fn_at (lev := 2) (n := 4) (k := 6) (body := b__law_weeks) Z sc__law_weeks rfl rfl ?_
  intro cdv A outer s H E hr
  exact (r_cons (r_for PassesOwn.never rfl (r_iter (r_lst (r_acons r_int (r_acons r_int (r_acons r_int r_anil))))) (pg_name (i := 4) sc__law_weeks.nd rfl (by first | exact Or.inl rfl | exact Or.inr rfl)) (tgOk_name (i := 4) (vs := [4]) (by decide)) (r_cons (r_set (i := 5) sc__law_weeks.nd rfl (by first | exact Or.inl rfl | exact Or.inr rfl) (q_tuple T.z_tuple (r_lc (own := [("day", 9)]) rfl sc__law_weeks.nd (r_iter (r_var (pv 2))) (blkOk_by (by kernel_rfl)) (tgOk_name (i := 9) (vs := [9]) (by decide)) (fun _ _ _ _ _ => (pg_name (i := 9) sc__law_weeks.nd rfl (by first | exact Or.inl rfl | exact Or.inr rfl))) (fun _ _ _ _ _ => r_ifs0) (fun _ _ _ _ _ => (q_div (r_var (pv 9)) (r_var (pv 4)))))) rfl (by first | exact .inl rfl | exact .inr rfl))
    (r_cons (r_set (i := 6) sc__law_weeks.nd rfl (by first | exact Or.inl rfl | exact Or.inr rfl) (q_div (q_sub (q_add (r_var (pv 3)) (r_var (pv 4))) r_int) (r_var (pv 4))) rfl (by first | exact .inl rfl | exact .inr rfl))
    (r_one (r_for PassesOwn.never rfl (r_iter (r_call (G__law_changed.mono (by omega)) hr (by rfl) (aCons_len (aCons_len (aCons_len (aCons_len aNil_len)))) (r_acons (r_var (pv 0)) (r_acons (r_var (pv 1)) (r_acons (r_var (pv 5)) (r_acons (r_var (pv 6)) r_anil)))))) (pg_name (i := 7) sc__law_weeks.nd rfl (by first | exact Or.inl rfl | exact Or.inr rfl)) (tgOk_name (i := 7) (vs := [7]) (by decide)) (r_one (r_for PassesOwn.never rfl (r_iter (r_lst (r_acons (r_var (pv 6)) (r_acons r_int r_anil)))) (pg_name (i := 8) sc__law_weeks.nd rfl (by first | exact Or.inl rfl | exact Or.inr rfl)) (tgOk_name (i := 8) (vs := [8]) (by decide)) (r_one (r_ifS (r_not (r_val (r_call (G__law_bool.mono (by omega)) hr (by rfl) (aCons_len (aCons_len aNil_len)) (r_acons (r_call (G_are_level.mono (by omega)) hr (by rfl) (aCons_len (aCons_len (aCons_len aNil_len))) (r_acons (r_var (pv 1)) (r_acons (r_var (pv 7)) (r_acons (r_var (pv 8)) r_anil)))) (r_acons (r_call (G__law_level.mono (by omega)) hr (by rfl) (aCons_len (aCons_len (aCons_len aNil_len))) (r_acons (r_var (pv 1)) (r_acons (r_var (pv 7)) (r_acons (r_var (pv 8)) r_anil)))) r_anil))))) (r_one (r_ret r_bl)) r_nil)))))))))
    (r_one (r_ret r_bl)))
abbrev s__law_stretches : Stmt := topS 53
theorem sc__law_stretches : FnScope ["deal", "web", "plan", "day", "rows", "row", "due", "p", "days", "i"] ["deal", "web", "plan"] (defScope s__law_stretches) := ⟨rfl, rfl, rfl, by decide +kernel, rfl, by decide +kernel, by decide +kernel⟩
theorem ok__law_stretches {a : Addr} {fd : FuncData} (T : Tops K mg) (Z : At K mg "_law_stretches" ["deal", "web", "plan"] s__law_stretches a fd) (G__law_bool : Fn P w K mg base 1 "_law_bool" 2 m__law_bool) (G__law_take : Fn P w K mg base 1 "_law_take" 2 m__law_take) (G_is_in_stretches : Fn P w K mg base 2 "is_in_stretches" 2 m_is_in_stretches) : Fn P w K mg base 3 "_law_stretches" 3 m__law_stretches := by
  refine fn_at (lev := 2) (n := 3) (k := 7) (body := b__law_stretches) Z sc__law_stretches rfl rfl ?_
  intro cdv A outer s H E hr
  exact (r_cons (r_set (i := 4) sc__law_stretches.nd rfl (by first | exact Or.inl rfl | exact Or.inr rfl) (r_lst (r_acons (r_var (pv 2)) (r_acons (q_tuple T.z_tuple (r_lc (own := [("day", 3)]) rfl sc__law_stretches.nd (r_iter (r_var (pv 2))) (blkOk_by (by kernel_rfl)) (tgOk_name (i := 3) (vs := [3]) (by decide)) (fun _ _ _ _ _ => (pg_name (i := 3) sc__law_stretches.nd rfl (by first | exact Or.inl rfl | exact Or.inr rfl))) (fun _ _ _ _ _ => r_ifs0) (fun _ _ _ _ _ => (q_mul r_int (r_var (pv 3)))))) (r_acons (r_tupRg rfl (by rfl) T.z_tuple (by rfl) T.z_range (q_len T.z_len (r_var (pv 2)))) (r_acons (q_tuple T.z_tuple (q_mul (r_lst (r_acons r_int r_anil)) (q_len T.z_len (r_var (pv 2))))) r_anil))))) rfl (by first | exact .inl rfl | exact .inr rfl))
    (r_cons (r_set (i := 4) sc__law_stretches.nd rfl (by first | exact Or.inl rfl | exact Or.inr rfl) (q_add (r_var (pv 4)) (r_lst (r_acons (q_tuple T.z_tuple (r_lc (own := [("day", 3)]) rfl sc__law_stretches.nd (r_iter (r_var (pv 2))) (blkOk_by (by kernel_rfl)) (tgOk_name (i := 3) (vs := [3]) (by decide)) (fun _ _ _ _ _ => (pg_name (i := 3) sc__law_stretches.nd rfl (by first | exact Or.inl rfl | exact Or.inr rfl))) (fun _ _ _ _ _ => r_ifs0) (fun _ _ _ _ _ => (r_call (G__law_take.mono (by omega)) hr (by rfl) (aCons_len (aCons_len aNil_len)) (r_acons (r_var (pv 0)) (r_acons r_int r_anil)))))) (r_acons (q_tuple T.z_tuple (r_lc (own := [("day", 3)]) rfl sc__law_stretches.nd (r_iter (r_var (pv 2))) (blkOk_by (by kernel_rfl)) (tgOk_name (i := 3) (vs := [3]) (by decide)) (fun _ _ _ _ _ => (pg_name (i := 3) sc__law_stretches.nd rfl (by first | exact Or.inl rfl | exact Or.inr rfl))) (fun _ _ _ _ _ => r_ifs0) (fun _ _ _ _ _ => (q_add (r_var (pv 3)) r_int)))) r_anil)))) rfl (by first | exact .inl rfl | exact .inr rfl))
    (r_cons (r_for PassesOwn.never rfl (r_iter (r_var (pv 4))) (pg_name (i := 5) sc__law_stretches.nd rfl (by first | exact Or.inl rfl | exact Or.inr rfl)) (tgOk_name (i := 5) (vs := [5]) (by decide)) (r_cons (r_set (i := 6) sc__law_stretches.nd rfl (by first | exact Or.inl rfl | exact Or.inr rfl) r_bl rfl (by first | exact .inl rfl | exact .inr rfl))
    (r_cons (r_for PassesOwn.never rfl (r_range1 (by rfl) T.z_range (q_ix (r_var (pv 1)) r_int)) (pg_name (i := 7) sc__law_stretches.nd rfl (by first | exact Or.inl rfl | exact Or.inr rfl)) (tgOk_name (i := 7) (vs := [7]) (by decide)) (r_cons (r_setLc (i := 8) (own := [("i", 9)]) rfl sc__law_stretches.nd rfl rfl (sw_true rfl rfl rfl (by decide +kernel)) (r_range1 (by rfl) T.z_range (q_len T.z_len (r_var (pv 5)))) (blkOk_by (by kernel_rfl)) (tgOk_name (i := 9) (vs := [9]) (by decide)) (fun _ _ _ _ _ => (pg_name (i := 9) sc__law_stretches.nd rfl (by first | exact Or.inl rfl | exact Or.inr rfl))) (fun _ _ _ _ _ => (r_ifs1 (q_cmpT (c_in (u65 hr)) (r_var (pv 7)) (q_ix (q_ix (r_var (pv 1)) r_int) (r_var (pv 9)))))) (fun _ _ _ _ _ => (q_ix (r_var (pv 5)) (r_var (pv 9)))))
    (r_one (r_for PassesOwn.never rfl (r_iter (r_var (pv 8))) (pg_name (i := 3) sc__law_stretches.nd rfl (by first | exact Or.inl rfl | exact Or.inr rfl)) (tgOk_name (i := 3) (vs := [3]) (by decide)) (r_one (r_set (i := 6) sc__law_stretches.nd rfl (by first | exact Or.inl rfl | exact Or.inr rfl) (r_eand (r_var (pv 6)) (r_eone (r_eor (q_cmp (c_eq (u64 hr)) (r_var (pv 3)) (q_max rfl T.z_max (r_var (pv 8)))) (r_eone (q_cmp (c_in (u65 hr)) (q_add (r_var (pv 3)) r_int) (r_var (pv 8))))))) rfl (by first | exact .inl rfl | exact .inr rfl)))))))
    (r_one (r_ifS (r_not (r_val (r_call (G__law_bool.mono (by omega)) hr (by rfl) (aCons_len (aCons_len aNil_len)) (r_acons (r_call (G_is_in_stretches.mono (by omega)) hr (by rfl) (aCons_len (aCons_len aNil_len)) (r_acons (r_var (pv 1)) (r_acons (r_var (pv 5)) r_anil))) (r_acons (r_var (pv 6)) r_anil))))) (r_one (r_ret r_bl)) r_nil)))))
    (r_one (r_ret r_bl)))))
abbrev s__law_homes : Stmt := topS 54
theorem sc__law_homes : FnScope ["deal", "web", "homes", "rows", "at", "a", "b", "home", "row", "due", "fair", "p", "mine", "pair", "i"] ["deal", "web"] (defScope s__law_homes) := ⟨rfl, rfl, rfl, by decide +kernel, rfl, by decide +kernel, by decide +kernel⟩
theorem ok__law_homes {a : Addr} {fd : FuncData} (T : Tops K mg) (Z : At K mg "_law_homes" ["deal", "web"] s__law_homes a fd) (G__law_bool : Fn P w K mg base 1 "_law_bool" 2 m__law_bool) (G__law_take : Fn P w K mg base 1 "_law_take" 2 m__law_take) (G_fair_homes : Fn P w K mg base 3 "fair_homes" 1 m_fair_homes) (G_is_fair : Fn P w K mg base 2 "is_fair" 2 m_is_fair) (G_is_homes : Fn P w K mg base 1 "is_homes" 2 m_is_homes) : Fn P w K mg base 4 "_law_homes" 2 m__law_homes := by
  refine fn_at (lev := 3) (n := 2) (k := 13) (body := b__law_homes) Z sc__law_homes rfl rfl ?_
  intro cdv A outer s H E hr
  exact (r_cons (r_set (i := 2) sc__law_homes.nd rfl (by first | exact Or.inl rfl | exact Or.inr rfl) (r_call (G_fair_homes.mono (by omega)) hr (by rfl) (aCons_len aNil_len) (r_acons (r_var (pv 1)) r_anil)) rfl (by first | exact .inl rfl | exact .inr rfl))
    (r_cons (r_set (i := 3) sc__law_homes.nd rfl (by first | exact Or.inl rfl | exact Or.inr rfl) (r_lstO (r_acons (r_var (pv 2)) (r_acons (r_sl (r_var (pv 2)) (r_osome r_int) r_onone) (r_acons (q_add (r_var (pv 2)) (r_tup (r_acons r_int r_anil))) (r_acons (q_tuple T.z_tuple (r_lc (own := [("pair", 13)]) rfl sc__law_homes.nd (r_iter (q_ix (r_var (pv 1)) r_int)) (blkOk_by (by kernel_rfl)) (tgOk_name (i := 13) (vs := [13]) (by decide)) (fun _ _ _ _ _ => (pg_name (i := 13) sc__law_homes.nd rfl (by first | exact Or.inl rfl | exact Or.inr rfl))) (fun _ _ _ _ _ => r_ifs0) (fun _ _ _ _ _ => (q_ix (r_var (pv 13)) (r_call (G__law_take.mono (by omega)) hr (by rfl) (aCons_len (aCons_len aNil_len)) (r_acons (r_var (pv 0)) (r_acons r_int r_anil))))))) (r_acons (q_tuple T.z_tuple (r_lc (own := [("pair", 13)]) rfl sc__law_homes.nd (r_iter (q_ix (r_var (pv 1)) r_int)) (blkOk_by (by kernel_rfl)) (tgOk_name (i := 13) (vs := [13]) (by decide)) (fun _ _ _ _ _ => (pg_name (i := 13) sc__law_homes.nd rfl (by first | exact Or.inl rfl | exact Or.inr rfl))) (fun _ _ _ _ _ => r_ifs0) (fun _ _ _ _ _ => (q_ix (r_var (pv 13)) r_int)))) r_anil)))))) rfl (by first | exact .inl rfl | exact .inr rfl))
    (r_cons (r_ifS (q_cmpT c_gt (q_len T.z_len (r_var (pv 2))) r_int) (r_cons (r_set (i := 4) sc__law_homes.nd rfl (by first | exact Or.inl rfl | exact Or.inr rfl) (r_call (G__law_take.mono (by omega)) hr (by rfl) (aCons_len (aCons_len aNil_len)) (r_acons (r_var (pv 0)) (r_acons (q_len T.z_len (r_var (pv 2))) r_anil))) rfl (by first | exact .inl rfl | exact .inr rfl))
    (r_cons (r_asgT (is := [5, 6]) rfl (q_ix (q_ix (r_var (pv 1)) r_int) (r_var (pv 4))) (pgs_cons (pg_name (i := 5) sc__law_homes.nd rfl (by first | exact Or.inl rfl | exact Or.inr rfl)) (pgs_cons (pg_name (i := 6) sc__law_homes.nd rfl (by first | exact Or.inl rfl | exact Or.inr rfl)) pgs_nil)))
    (r_one (r_for PassesOwn.never rfl (r_iter (r_lst (r_acons (q_sub (q_add (r_var (pv 5)) (r_var (pv 6))) (q_ix (r_var (pv 2)) (r_var (pv 4)))) (r_acons (q_ix (r_var (pv 1)) r_int) (r_acons (r_neg r_int) (r_acons (q_mod (q_add (q_ix (r_var (pv 2)) (r_var (pv 4))) r_int) (q_ix (r_var (pv 1)) r_int)) r_anil)))))) (pg_name (i := 7) sc__law_homes.nd rfl (by first | exact Or.inl rfl | exact Or.inr rfl)) (tgOk_name (i := 7) (vs := [7]) (by decide)) (r_one (r_expr (r_app (r_var (pv 3)) (q_add (q_add (r_sl (r_var (pv 2)) r_onone (r_osome (r_var (pv 4)))) (r_tup (r_acons (r_var (pv 7)) r_anil))) (r_sl (r_var (pv 2)) (r_osome (q_add (r_var (pv 4)) r_int)) r_onone))))))))) r_nil)
    (r_cons (r_for PassesOwn.never rfl (r_iter (r_var (pv 3))) (pg_name (i := 8) sc__law_homes.nd rfl (by first | exact Or.inl rfl | exact Or.inr rfl)) (tgOk_name (i := 8) (vs := [8]) (by decide)) (r_cons (r_set (i := 9) sc__law_homes.nd rfl (by first | exact Or.inl rfl | exact Or.inr rfl) (r_eand (q_cmp (c_eq (u64 hr)) (q_len T.z_len (r_var (pv 8))) (q_len T.z_len (q_ix (r_var (pv 1)) r_int))) (r_eone (q_cmp (c_eq (u64 hr)) (q_len T.z_len (r_lc (own := [("i", 14)]) rfl sc__law_homes.nd (r_range1 (by rfl) T.z_range (q_len T.z_len (r_var (pv 8)))) (blkOk_by (by kernel_rfl)) (tgOk_name (i := 14) (vs := [14]) (by decide)) (fun _ _ _ _ _ => (pg_name (i := 14) sc__law_homes.nd rfl (by first | exact Or.inl rfl | exact Or.inr rfl))) (fun _ _ _ _ _ => (r_ifs1 (q_cmpT (c_nin (u65 hr)) (q_ix (r_var (pv 8)) (r_var (pv 14))) (q_ix (q_ix (r_var (pv 1)) r_int) (r_var (pv 14)))))) (fun _ _ _ _ _ => r_int))) r_int))) rfl (by first | exact .inl rfl | exact .inr rfl))
    (r_cons (r_ifS (r_not (r_val (r_call (G__law_bool.mono (by omega)) hr (by rfl) (aCons_len (aCons_len aNil_len)) (r_acons (r_call (G_is_homes.mono (by omega)) hr (by rfl) (aCons_len (aCons_len aNil_len)) (r_acons (r_var (pv 1)) (r_acons (r_var (pv 8)) r_anil))) (r_acons (r_var (pv 9)) r_anil))))) (r_one (r_ret r_bl)) r_nil)
    (r_cons (r_set (i := 10) sc__law_homes.nd rfl (by first | exact Or.inl rfl | exact Or.inr rfl) r_bl rfl (by first | exact .inl rfl | exact .inr rfl))
    (r_cons (r_for PassesOwn.never rfl (r_range1 (by rfl) T.z_range (q_ix (r_var (pv 1)) r_int)) (pg_name (i := 11) sc__law_homes.nd rfl (by first | exact Or.inl rfl | exact Or.inr rfl)) (tgOk_name (i := 11) (vs := [11]) (by decide)) (r_cons (r_set (i := 12) sc__law_homes.nd rfl (by first | exact Or.inl rfl | exact Or.inr rfl) (q_len T.z_len (r_lc (own := [("pair", 13)]) rfl sc__law_homes.nd (r_iter (q_ix (r_var (pv 1)) r_int)) (blkOk_by (by kernel_rfl)) (tgOk_name (i := 13) (vs := [13]) (by decide)) (fun _ _ _ _ _ => (pg_name (i := 13) sc__law_homes.nd rfl (by first | exact Or.inl rfl | exact Or.inr rfl))) (fun _ _ _ _ _ => (r_ifs1 (q_cmpT (c_in (u65 hr)) (r_var (pv 11)) (r_var (pv 13))))) (fun _ _ _ _ _ => r_int))) rfl (by first | exact .inl rfl | exact .inr rfl))
    (r_one (r_set (i := 10) sc__law_homes.nd rfl (by first | exact Or.inl rfl | exact Or.inr rfl) (r_eand (r_var (pv 10)) (r_eone (q_cmp c_lt (q_abs T.z_abs (q_sub (q_mul r_int (q_len T.z_len (r_lc (own := [("home", 7)]) rfl sc__law_homes.nd (r_iter (r_var (pv 8))) (blkOk_by (by kernel_rfl)) (tgOk_name (i := 7) (vs := [7]) (by decide)) (fun _ _ _ _ _ => (pg_name (i := 7) sc__law_homes.nd rfl (by first | exact Or.inl rfl | exact Or.inr rfl))) (fun _ _ _ _ _ => (r_ifs1 (q_cmpT (c_eq (u64 hr)) (r_var (pv 7)) (r_var (pv 11))))) (fun _ _ _ _ _ => r_int)))) (r_var (pv 12)))) r_int))) rfl (by first | exact .inl rfl | exact .inr rfl)))))
    (r_one (r_ifS (r_and (r_val (r_var (pv 9))) (r_and1 (r_not (r_val (r_call (G__law_bool.mono (by omega)) hr (by rfl) (aCons_len (aCons_len aNil_len)) (r_acons (r_call (G_is_fair.mono (by omega)) hr (by rfl) (aCons_len (aCons_len aNil_len)) (r_acons (r_var (pv 1)) (r_acons (r_var (pv 8)) r_anil))) (r_acons (r_var (pv 10)) r_anil))))))).pt (r_one (r_ret r_bl)) r_nil)))))))
    (r_one (r_ret r_bl))))))
abbrev s_law : Stmt := topS 55
theorem sc_law : FnScope ["script", "deal", "web", "top", "k", "plan", "plain", "one", "most", "days", "i"] ["script"] (defScope s_law) := ⟨rfl, rfl, rfl, by decide +kernel, rfl, by decide +kernel, by decide +kernel⟩
theorem okF_law {a : Addr} {fd : FuncData} (T : Tops K mg) (Z : At K mg "law" ["script"] s_law a fd) (G__law_bool : Fn P w K mg base 1 "_law_bool" 2 m__law_bool) (G__law_changed : Fn P w K mg base 2 "_law_changed" 4 m__law_changed) (G__law_deal : Fn P w K mg base 1 "_law_deal" 1 m__law_deal) (G__law_even : Fn P w K mg base 3 "_law_even" 1 m__law_even) (G__law_homes : Fn P w K mg base 4 "_law_homes" 2 m__law_homes) (G__law_is_right : Fn P w K mg base 2 "_law_is_right" 3 m__law_is_right) (G__law_laid : Fn P w K mg base 3 "_law_laid" 3 m__law_laid) (G__law_load : Fn P w K mg base 1 "_law_load" 1 m__law_load) (G__law_rooms : Fn P w K mg base 8 "_law_rooms" 3 m__law_rooms) (G__law_stretches : Fn P w K mg base 3 "_law_stretches" 3 m__law_stretches) (G__law_take : Fn P w K mg base 1 "_law_take" 2 m__law_take) (G__law_web : Fn P w K mg base 4 "_law_web" 2 m__law_web) (G__law_weeks : Fn P w K mg base 3 "_law_weeks" 4 m__law_weeks) (G_is_right : Fn P w K mg base 2 "is_right" 3 m_is_right) (G_shows_class : Fn P w K mg base 4 "shows_class" 2 m_shows_class) : FnOk P w K mg base CX0 9 a fd ["script"] (spD K 1 m_law) := by
  refine fn_ok (lev := 8) (n := 1) (k := 10) (body := b_law) Z.F sc_law rfl rfl ?_
  intro cdv A outer s H E hr
  exact (r_cons (r_set (i := 1) sc_law.nd rfl (by first | exact Or.inl rfl | exact Or.inr rfl) (r_call (G__law_deal.mono (by omega)) hr (by rfl) (aCons_len aNil_len) (r_acons (r_var (pv 0)) r_anil)) rfl (by first | exact .inl rfl | exact .inr rfl))
    (r_cons (r_set (i := 2) sc_law.nd rfl (by first | exact Or.inl rfl | exact Or.inr rfl) (r_call (G__law_web.mono (by omega)) hr (by rfl) (aCons_len (aCons_len aNil_len)) (r_acons (r_var (pv 1)) (r_acons r_int r_anil))) rfl (by first | exact .inl rfl | exact .inr rfl))
    (r_cons (r_set (i := 3) sc_law.nd rfl (by first | exact Or.inl rfl | exact Or.inr rfl) (r_call (G__law_load.mono (by omega)) hr (by rfl) (aCons_len aNil_len) (r_acons (r_var (pv 2)) r_anil)) rfl (by first | exact .inl rfl | exact .inr rfl))
    (r_cons (r_set (i := 4) sc_law.nd rfl (by first | exact Or.inl rfl | exact Or.inr rfl) (q_max2 rfl T.z_max r_int (q_add (q_sub (q_mul r_int (r_var (pv 3))) r_int) (r_call (G__law_take.mono (by omega)) hr (by rfl) (aCons_len (aCons_len aNil_len)) (r_acons (r_var (pv 1)) (r_acons r_int r_anil))))) rfl (by first | exact .inl rfl | exact .inr rfl))
    (r_cons (r_set (i := 5) sc_law.nd rfl (by first | exact Or.inl rfl | exact Or.inr rfl) (r_call (G__law_laid.mono (by omega)) hr (by rfl) (aCons_len (aCons_len (aCons_len aNil_len))) (r_acons (r_var (pv 1)) (r_acons (r_var (pv 2)) (r_acons (r_var (pv 4)) r_anil)))) rfl (by first | exact .inl rfl | exact .inr rfl))
    (r_cons (r_set (i := 6) sc_law.nd rfl (by first | exact Or.inl rfl | exact Or.inr rfl) (q_cmp (c_eq (u64 hr)) (q_len T.z_len (r_lc (own := [("i", 10)]) rfl sc_law.nd (r_range1 (by rfl) T.z_range (q_len T.z_len (q_ix (r_var (pv 2)) r_int))) (blkOk_by (by kernel_rfl)) (tgOk_name (i := 10) (vs := [10]) (by decide)) (fun _ _ _ _ _ => (pg_name (i := 10) sc_law.nd rfl (by first | exact Or.inl rfl | exact Or.inr rfl))) (fun _ _ _ _ _ => (r_ifs1 (q_cmpT (c_in (u65 hr)) (q_ix (q_ix (r_var (pv 2)) r_int) (r_var (pv 10))) (r_sl (q_ix (r_var (pv 2)) r_int) r_onone (r_osome (r_var (pv 10))))))) (fun _ _ _ _ _ => r_int))) r_int) rfl (by first | exact .inl rfl | exact .inr rfl))
    (r_cons (r_for PassesOwn.never rfl (r_iter (r_call (G__law_changed.mono (by omega)) hr (by rfl) (aCons_len (aCons_len (aCons_len (aCons_len aNil_len)))) (r_acons (r_var (pv 1)) (r_acons (r_var (pv 2)) (r_acons (r_var (pv 5)) (r_acons (r_var (pv 4)) r_anil)))))) (pg_name (i := 7) sc_law.nd rfl (by first | exact Or.inl rfl | exact Or.inr rfl)) (tgOk_name (i := 7) (vs := [7]) (by decide)) (r_cons (r_set (i := 8) sc_law.nd rfl (by first | exact Or.inl rfl | exact Or.inr rfl) (q_max rfl T.z_max (q_add (r_lst (r_acons r_int r_anil)) (q_list T.z_list (r_var (pv 7))))) rfl (by first | exact .inl rfl | exact .inr rfl))
    (r_cons (r_for PassesOwn.never rfl (r_iter (r_lst (r_acons (r_var (pv 4)) (r_acons (r_var (pv 8)) (r_acons (q_add (r_var (pv 8)) r_int) (r_acons (r_var (pv 3)) r_anil)))))) (pg_name (i := 9) sc_law.nd rfl (by first | exact Or.inl rfl | exact Or.inr rfl)) (tgOk_name (i := 9) (vs := [9]) (by decide)) (r_one (r_ifS (r_not (r_val (r_call (G__law_bool.mono (by omega)) hr (by rfl) (aCons_len (aCons_len aNil_len)) (r_acons (r_call (G_is_right.mono (by omega)) hr (by rfl) (aCons_len (aCons_len (aCons_len aNil_len))) (r_acons (r_var (pv 2)) (r_acons (r_var (pv 7)) (r_acons (r_var (pv 9)) r_anil)))) (r_acons (r_call (G__law_is_right.mono (by omega)) hr (by rfl) (aCons_len (aCons_len (aCons_len aNil_len))) (r_acons (r_var (pv 2)) (r_acons (r_var (pv 7)) (r_acons (r_var (pv 9)) r_anil)))) r_anil))))) (r_one (r_ret r_bl)) r_nil)))
    (r_cons (r_ifS (r_not (r_val (r_call (G__law_rooms.mono (by omega)) hr (by rfl) (aCons_len (aCons_len (aCons_len aNil_len))) (r_acons (r_var (pv 2)) (r_acons (r_var (pv 7)) (r_acons (r_var (pv 4)) r_anil)))))) (r_one (r_ret r_bl)) r_nil)
    (r_one (r_ifS (r_and (r_val (r_var (pv 6))) (r_and1 (r_not (r_val (r_call (G__law_bool.mono (by omega)) hr (by rfl) (aCons_len (aCons_len aNil_len)) (r_acons (r_call (G_shows_class.mono (by omega)) hr (by rfl) (aCons_len (aCons_len aNil_len)) (r_acons (r_var (pv 2)) (r_acons (r_tup (r_acons r_int (r_acons (r_var (pv 7)) r_anil))) r_anil))) (r_acons (r_call (G__law_is_right.mono (by omega)) hr (by rfl) (aCons_len (aCons_len (aCons_len aNil_len))) (r_acons (r_var (pv 2)) (r_acons (r_var (pv 7)) (r_acons (r_var (pv 3)) r_anil)))) r_anil))))))).pt (r_one (r_ret r_bl)) r_nil))))))
    (r_one (r_ret (r_eand (r_call (G__law_even.mono (by omega)) hr (by rfl) (aCons_len aNil_len) (r_acons (r_var (pv 1)) r_anil)) (r_eand (r_call (G__law_weeks.mono (by omega)) hr (by rfl) (aCons_len (aCons_len (aCons_len (aCons_len aNil_len)))) (r_acons (r_var (pv 1)) (r_acons (r_var (pv 2)) (r_acons (r_var (pv 5)) (r_acons (r_var (pv 4)) r_anil))))) (r_eand (r_call (G__law_stretches.mono (by omega)) hr (by rfl) (aCons_len (aCons_len (aCons_len aNil_len))) (r_acons (r_var (pv 1)) (r_acons (r_var (pv 2)) (r_acons (r_var (pv 5)) r_anil)))) (r_eone (r_call (G__law_homes.mono (by omega)) hr (by rfl) (aCons_len (aCons_len aNil_len)) (r_acons (r_var (pv 1)) (r_acons (r_var (pv 2)) r_anil))))))))))))))))
theorem ok_all (T : Tops K mg)
  {a_meetings_of : Addr} {d_meetings_of : FuncData} (Z_meetings_of : At K mg "meetings_of" ["web", "person"] s_meetings_of a_meetings_of d_meetings_of)
  {a_load : Addr} {d_load : FuncData} (Z_load : At K mg "load" ["web", "person"] s_load a_load d_load)
  {a_greatest_load : Addr} {d_greatest_load : FuncData} (Z_greatest_load : At K mg "greatest_load" ["web"] s_greatest_load a_greatest_load d_greatest_load)
  {a_clash : Addr} {d_clash : FuncData} (Z_clash : At K mg "clash" ["web", "i", "j"] s_clash a_clash d_clash)
  {a_clashing : Addr} {d_clashing : FuncData} (Z_clashing : At K mg "clashing" ["web", "i"] s_clashing a_clashing d_clashing)
  {a_other_of : Addr} {d_other_of : FuncData} (Z_other_of : At K mg "other_of" ["web", "i", "person"] s_other_of a_other_of d_other_of)
  {a_is_right : Addr} {d_is_right : FuncData} (Z_is_right : At K mg "is_right" ["web", "plan", "k"] s_is_right a_is_right d_is_right)
  {a_day_counts : Addr} {d_day_counts : FuncData} (Z_day_counts : At K mg "day_counts" ["plan", "k"] s_day_counts a_day_counts d_day_counts)
  {a_days_left : Addr} {d_days_left : FuncData} (Z_days_left : At K mg "days_left" ["web", "days", "i", "k"] s_days_left a_days_left d_days_left)
  {a_days_to_try : Addr} {d_days_to_try : FuncData} (Z_days_to_try : At K mg "days_to_try" ["web", "days", "i", "k"] s_days_to_try a_days_to_try d_days_to_try)
  {a_with_day : Addr} {d_with_day : FuncData} (Z_with_day : At K mg "with_day" ["days", "i", "day"] s_with_day a_with_day d_with_day)
  {a_shows_here : Addr} {d_shows_here : FuncData} (Z_shows_here : At K mg "shows_here" ["web", "k", "days", "paper"] s_shows_here a_shows_here d_shows_here)
  {a_shows_tries : Addr} {d_shows_tries : FuncData} (Z_shows_tries : At K mg "shows_tries" ["web", "k", "paper"] s_shows_tries a_shows_tries d_shows_tries)
  {a_shows_class : Addr} {d_shows_class : FuncData} (Z_shows_class : At K mg "shows_class" ["web", "paper"] s_shows_class a_shows_class d_shows_class)
  {a_is_homes : Addr} {d_is_homes : FuncData} (Z_is_homes : At K mg "is_homes" ["web", "homes"] s_is_homes a_is_homes d_is_homes)
  {a_is_fair : Addr} {d_is_fair : FuncData} (Z_is_fair : At K mg "is_fair" ["web", "homes"] s_is_fair a_is_fair d_is_fair)
  {a_start_of : Addr} {d_start_of : FuncData} (Z_start_of : At K mg "start_of" ["web", "left"] s_start_of a_start_of d_start_of)
  {a_fair_homes : Addr} {d_fair_homes : FuncData} (Z_fair_homes : At K mg "fair_homes" ["web"] s_fair_homes a_fair_homes d_fair_homes)
  {a_is_even : Addr} {d_is_even : FuncData} (Z_is_even : At K mg "is_even" ["plan", "k"] s_is_even a_is_even d_is_even)
  {a_shows_rooms : Addr} {d_shows_rooms : FuncData} (Z_shows_rooms : At K mg "shows_rooms" ["web", "k", "r", "plan"] s_shows_rooms a_shows_rooms d_shows_rooms)
  {a_is_in_stretches : Addr} {d_is_in_stretches : FuncData} (Z_is_in_stretches : At K mg "is_in_stretches" ["web", "plan"] s_is_in_stretches a_is_in_stretches d_is_in_stretches)
  {a_are_level : Addr} {d_are_level : FuncData} (Z_are_level : At K mg "are_level" ["web", "weeks", "k"] s_are_level a_are_level d_are_level)
  {a__law_deal : Addr} {d__law_deal : FuncData} (Z__law_deal : At K mg "_law_deal" ["script"] s__law_deal a__law_deal d__law_deal)
  {a__law_take : Addr} {d__law_take : FuncData} (Z__law_take : At K mg "_law_take" ["deal", "many"] s__law_take a__law_take d__law_take)
  {a__law_same : Addr} {d__law_same : FuncData} (Z__law_same : At K mg "_law_same" ["a", "b"] s__law_same a__law_same d__law_same)
  {a__law_bool : Addr} {d__law_bool : FuncData} (Z__law_bool : At K mg "_law_bool" ["answer", "due"] s__law_bool a__law_bool d__law_bool)
  {a__law_pick : Addr} {d__law_pick : FuncData} (Z__law_pick : At K mg "_law_pick" ["deal", "things"] s__law_pick a__law_pick d__law_pick)
  {a__law_plain : Addr} {d__law_plain : FuncData} (Z__law_plain : At K mg "_law_plain" ["deal", "most", "limit"] s__law_plain a__law_plain d__law_plain)
  {a__law_sided : Addr} {d__law_sided : FuncData} (Z__law_sided : At K mg "_law_sided" ["deal", "most", "limit"] s__law_sided a__law_sided d__law_sided)
  {a__law_any : Addr} {d__law_any : FuncData} (Z__law_any : At K mg "_law_any" ["deal", "limit"] s__law_any a__law_any d__law_any)
  {a__law_few : Addr} {d__law_few : FuncData} (Z__law_few : At K mg "_law_few" ["deal"] s__law_few a__law_few d__law_few)
  {a__law_web : Addr} {d__law_web : FuncData} (Z__law_web : At K mg "_law_web" ["deal", "limit"] s__law_web a__law_web d__law_web)
  {a__law_load : Addr} {d__law_load : FuncData} (Z__law_load : At K mg "_law_load" ["web"] s__law_load a__law_load d__law_load)
  {a__law_counts : Addr} {d__law_counts : FuncData} (Z__law_counts : At K mg "_law_counts" ["plan", "k"] s__law_counts a__law_counts d__law_counts)
  {a__law_clash : Addr} {d__law_clash : FuncData} (Z__law_clash : At K mg "_law_clash" ["web", "i", "j"] s__law_clash a__law_clash d__law_clash)
  {a__law_laid : Addr} {d__law_laid : FuncData} (Z__law_laid : At K mg "_law_laid" ["deal", "web", "k"] s__law_laid a__law_laid d__law_laid)
  {a__law_is_right : Addr} {d__law_is_right : FuncData} (Z__law_is_right : At K mg "_law_is_right" ["web", "plan", "k"] s__law_is_right a__law_is_right d__law_is_right)
  {a__law_changed : Addr} {d__law_changed : FuncData} (Z__law_changed : At K mg "_law_changed" ["deal", "web", "plan", "k"] s__law_changed a__law_changed d__law_changed)
  {a__law_rooms : Addr} {d__law_rooms : FuncData} (Z__law_rooms : At K mg "_law_rooms" ["web", "plan", "k"] s__law_rooms a__law_rooms d__law_rooms)
  {a__law_even : Addr} {d__law_even : FuncData} (Z__law_even : At K mg "_law_even" ["deal"] s__law_even a__law_even d__law_even)
  {a__law_level : Addr} {d__law_level : FuncData} (Z__law_level : At K mg "_law_level" ["web", "numbers", "k"] s__law_level a__law_level d__law_level)
  {a__law_weeks : Addr} {d__law_weeks : FuncData} (Z__law_weeks : At K mg "_law_weeks" ["deal", "web", "plan", "k"] s__law_weeks a__law_weeks d__law_weeks)
  {a__law_stretches : Addr} {d__law_stretches : FuncData} (Z__law_stretches : At K mg "_law_stretches" ["deal", "web", "plan"] s__law_stretches a__law_stretches d__law_stretches)
  {a__law_homes : Addr} {d__law_homes : FuncData} (Z__law_homes : At K mg "_law_homes" ["deal", "web"] s__law_homes a__law_homes d__law_homes)
  {a_law : Addr} {d_law : FuncData} (Z_law : At K mg "law" ["script"] s_law a_law d_law) : FnOk P w K mg base CX0 9 a_law d_law ["script"] (spD K 1 m_law) := by
  have G_meetings_of : Fn P w K mg base 1 "meetings_of" 2 m_meetings_of := ok_meetings_of T Z_meetings_of
  have G_load : Fn P w K mg base 2 "load" 2 m_load := ok_load T Z_load G_meetings_of
  have G_greatest_load : Fn P w K mg base 3 "greatest_load" 1 m_greatest_load := ok_greatest_load T Z_greatest_load G_load
  have G_clash : Fn P w K mg base 1 "clash" 3 m_clash := ok_clash T Z_clash
  have G_clashing : Fn P w K mg base 0 "clashing" 2 fNone := fn_none Z_clashing
  have G_other_of : Fn P w K mg base 1 "other_of" 3 m_other_of := ok_other_of T Z_other_of
  have G_is_right : Fn P w K mg base 2 "is_right" 3 m_is_right := ok_is_right T Z_is_right G_clash
  have G_day_counts : Fn P w K mg base 1 "day_counts" 2 m_day_counts := ok_day_counts T Z_day_counts
  have G_days_left : Fn P w K mg base 0 "days_left" 4 fNone := fn_none Z_days_left
  have G_days_to_try : Fn P w K mg base 0 "days_to_try" 4 fNone := fn_none Z_days_to_try
  have G_with_day : Fn P w K mg base 0 "with_day" 3 fNone := fn_none Z_with_day
  have G_shows_here : Fn P w K mg base 0 "shows_here" 4 fNone := fn_none Z_shows_here
  have G_shows_tries : Fn P w K mg base 0 "shows_tries" 3 fNone := fn_none Z_shows_tries
  have G_shows_class : Fn P w K mg base 4 "shows_class" 2 m_shows_class := ok_shows_class T Z_shows_class G_greatest_load G_is_right G_shows_tries
  have G_is_homes : Fn P w K mg base 1 "is_homes" 2 m_is_homes := ok_is_homes T Z_is_homes
  have G_is_fair : Fn P w K mg base 2 "is_fair" 2 m_is_fair := ok_is_fair T Z_is_fair G_meetings_of
  have G_start_of : Fn P w K mg base 2 "start_of" 2 m_start_of := ok_start_of T Z_start_of G_meetings_of
  have G_fair_homes : Fn P w K mg base 3 "fair_homes" 1 m_fair_homes := ok_fair_homes T Z_fair_homes G_meetings_of G_other_of G_start_of
  have G_is_even : Fn P w K mg base 2 "is_even" 2 m_is_even := ok_is_even T Z_is_even G_day_counts
  have G_shows_rooms : Fn P w K mg base 3 "shows_rooms" 4 m_shows_rooms := ok_shows_rooms T Z_shows_rooms G_day_counts G_is_right
  have G_is_in_stretches : Fn P w K mg base 2 "is_in_stretches" 2 m_is_in_stretches := ok_is_in_stretches T Z_is_in_stretches G_meetings_of
  have G_are_level : Fn P w K mg base 2 "are_level" 3 m_are_level := ok_are_level T Z_are_level G_meetings_of
  have G__law_deal : Fn P w K mg base 1 "_law_deal" 1 m__law_deal := ok__law_deal T Z__law_deal
  have G__law_take : Fn P w K mg base 1 "_law_take" 2 m__law_take := ok__law_take T Z__law_take
  have G__law_same : Fn P w K mg base 7 "_law_same" 2 (m__law_same 6) := ok__law_same T Z__law_same 6
  have G__law_bool : Fn P w K mg base 1 "_law_bool" 2 m__law_bool := ok__law_bool T Z__law_bool
  have G__law_pick : Fn P w K mg base 2 "_law_pick" 2 m__law_pick := ok__law_pick T Z__law_pick G__law_take
  have G__law_plain : Fn P w K mg base 2 "_law_plain" 3 m__law_plain := ok__law_plain T Z__law_plain G__law_take
  have G__law_sided : Fn P w K mg base 2 "_law_sided" 3 m__law_sided := ok__law_sided T Z__law_sided G__law_take
  have G__law_any : Fn P w K mg base 3 "_law_any" 2 m__law_any := ok__law_any T Z__law_any G__law_plain G__law_sided G__law_take
  have G__law_few : Fn P w K mg base 2 "_law_few" 1 m__law_few := ok__law_few T Z__law_few G__law_take
  have G__law_web : Fn P w K mg base 4 "_law_web" 2 m__law_web := ok__law_web T Z__law_web G__law_any G__law_few G__law_take
  have G__law_load : Fn P w K mg base 1 "_law_load" 1 m__law_load := ok__law_load T Z__law_load
  have G__law_counts : Fn P w K mg base 1 "_law_counts" 2 m__law_counts := ok__law_counts T Z__law_counts
  have G__law_clash : Fn P w K mg base 1 "_law_clash" 3 m__law_clash := ok__law_clash T Z__law_clash
  have G__law_laid : Fn P w K mg base 3 "_law_laid" 3 m__law_laid := ok__law_laid T Z__law_laid G__law_clash G__law_pick
  have G__law_is_right : Fn P w K mg base 2 "_law_is_right" 3 m__law_is_right := ok__law_is_right T Z__law_is_right G__law_clash
  have G__law_changed : Fn P w K mg base 2 "_law_changed" 4 m__law_changed := ok__law_changed T Z__law_changed G__law_clash G__law_take
  have G__law_rooms : Fn P w K mg base 8 "_law_rooms" 3 m__law_rooms := ok__law_rooms T Z__law_rooms G__law_bool G__law_counts G__law_is_right G__law_same G_day_counts G_is_even G_shows_rooms
  have G__law_even : Fn P w K mg base 3 "_law_even" 1 m__law_even := ok__law_even T Z__law_even G__law_bool G__law_counts G__law_take G_is_even
  have G__law_level : Fn P w K mg base 2 "_law_level" 3 m__law_level := ok__law_level T Z__law_level G__law_counts
  have G__law_weeks : Fn P w K mg base 3 "_law_weeks" 4 m__law_weeks := ok__law_weeks T Z__law_weeks G__law_bool G__law_changed G__law_level G_are_level
  have G__law_stretches : Fn P w K mg base 3 "_law_stretches" 3 m__law_stretches := ok__law_stretches T Z__law_stretches G__law_bool G__law_take G_is_in_stretches
  have G__law_homes : Fn P w K mg base 4 "_law_homes" 2 m__law_homes := ok__law_homes T Z__law_homes G__law_bool G__law_take G_fair_homes G_is_fair G_is_homes
  exact okF_law T Z_law G__law_bool G__law_changed G__law_deal G__law_even G__law_homes G__law_is_right G__law_laid G__law_load G__law_rooms G__law_stretches G__law_take G__law_web G__law_weeks G_is_right G_shows_class
end
theorem all_mk {l : PySem.W.OpenLaw} {w : World} {K : PySem.W.Frag} {h : Heap} {mg : Str → Option Value} {fa : Addr} (X : K.In h) (G : h.Ns mainGlobals mg) (hfa : mg "law" = some (.ref fa))
    {f0 : Addr} {od0 an0 : Option Addr} {sl0 : Array (Option Value)} {oc0 kV0 dc0 pm0 cd0 ct0 : Value}
    (a0 : PySem.W.nsIn K mainGlobals "meetings_of" = some (some (.ref f0))) (l0 : K.lookup f0 = some ⟨oc0, od0, .func (PySem.W.fnOf "meetings_of" "meetings_of" (defArgs s_meetings_of) (defBody s_meetings_of) (defScope s_meetings_of) .none kV0 dc0 pm0 an0 cd0 ct0), sl0⟩) (c0 : PySem.W.codeIn K cd0 "meetings_of" = true) (k0 : PySem.W.keepIn K (.ref f0) = true)
    {f1 : Addr} {od1 an1 : Option Addr} {sl1 : Array (Option Value)} {oc1 kV1 dc1 pm1 cd1 ct1 : Value}
    (a1 : PySem.W.nsIn K mainGlobals "load" = some (some (.ref f1))) (l1 : K.lookup f1 = some ⟨oc1, od1, .func (PySem.W.fnOf "load" "load" (defArgs s_load) (defBody s_load) (defScope s_load) .none kV1 dc1 pm1 an1 cd1 ct1), sl1⟩) (c1 : PySem.W.codeIn K cd1 "load" = true) (k1 : PySem.W.keepIn K (.ref f1) = true)
    {f2 : Addr} {od2 an2 : Option Addr} {sl2 : Array (Option Value)} {oc2 kV2 dc2 pm2 cd2 ct2 : Value}
    (a2 : PySem.W.nsIn K mainGlobals "greatest_load" = some (some (.ref f2))) (l2 : K.lookup f2 = some ⟨oc2, od2, .func (PySem.W.fnOf "greatest_load" "greatest_load" (defArgs s_greatest_load) (defBody s_greatest_load) (defScope s_greatest_load) .none kV2 dc2 pm2 an2 cd2 ct2), sl2⟩) (c2 : PySem.W.codeIn K cd2 "greatest_load" = true) (k2 : PySem.W.keepIn K (.ref f2) = true)
    {f3 : Addr} {od3 an3 : Option Addr} {sl3 : Array (Option Value)} {oc3 kV3 dc3 pm3 cd3 ct3 : Value}
    (a3 : PySem.W.nsIn K mainGlobals "clash" = some (some (.ref f3))) (l3 : K.lookup f3 = some ⟨oc3, od3, .func (PySem.W.fnOf "clash" "clash" (defArgs s_clash) (defBody s_clash) (defScope s_clash) .none kV3 dc3 pm3 an3 cd3 ct3), sl3⟩) (c3 : PySem.W.codeIn K cd3 "clash" = true) (k3 : PySem.W.keepIn K (.ref f3) = true)
    {f4 : Addr} {od4 an4 : Option Addr} {sl4 : Array (Option Value)} {oc4 kV4 dc4 pm4 cd4 ct4 : Value}
    (a4 : PySem.W.nsIn K mainGlobals "clashing" = some (some (.ref f4))) (l4 : K.lookup f4 = some ⟨oc4, od4, .func (PySem.W.fnOf "clashing" "clashing" (defArgs s_clashing) (defBody s_clashing) (defScope s_clashing) .none kV4 dc4 pm4 an4 cd4 ct4), sl4⟩) (c4 : PySem.W.codeIn K cd4 "clashing" = true) (k4 : PySem.W.keepIn K (.ref f4) = true)
    {f5 : Addr} {od5 an5 : Option Addr} {sl5 : Array (Option Value)} {oc5 kV5 dc5 pm5 cd5 ct5 : Value}
    (a5 : PySem.W.nsIn K mainGlobals "other_of" = some (some (.ref f5))) (l5 : K.lookup f5 = some ⟨oc5, od5, .func (PySem.W.fnOf "other_of" "other_of" (defArgs s_other_of) (defBody s_other_of) (defScope s_other_of) .none kV5 dc5 pm5 an5 cd5 ct5), sl5⟩) (c5 : PySem.W.codeIn K cd5 "other_of" = true) (k5 : PySem.W.keepIn K (.ref f5) = true)
    {f6 : Addr} {od6 an6 : Option Addr} {sl6 : Array (Option Value)} {oc6 kV6 dc6 pm6 cd6 ct6 : Value}
    (a6 : PySem.W.nsIn K mainGlobals "is_right" = some (some (.ref f6))) (l6 : K.lookup f6 = some ⟨oc6, od6, .func (PySem.W.fnOf "is_right" "is_right" (defArgs s_is_right) (defBody s_is_right) (defScope s_is_right) .none kV6 dc6 pm6 an6 cd6 ct6), sl6⟩) (c6 : PySem.W.codeIn K cd6 "is_right" = true) (k6 : PySem.W.keepIn K (.ref f6) = true)
    {f7 : Addr} {od7 an7 : Option Addr} {sl7 : Array (Option Value)} {oc7 kV7 dc7 pm7 cd7 ct7 : Value}
    (a7 : PySem.W.nsIn K mainGlobals "day_counts" = some (some (.ref f7))) (l7 : K.lookup f7 = some ⟨oc7, od7, .func (PySem.W.fnOf "day_counts" "day_counts" (defArgs s_day_counts) (defBody s_day_counts) (defScope s_day_counts) .none kV7 dc7 pm7 an7 cd7 ct7), sl7⟩) (c7 : PySem.W.codeIn K cd7 "day_counts" = true) (k7 : PySem.W.keepIn K (.ref f7) = true)
    {f8 : Addr} {od8 an8 : Option Addr} {sl8 : Array (Option Value)} {oc8 kV8 dc8 pm8 cd8 ct8 : Value}
    (a8 : PySem.W.nsIn K mainGlobals "days_left" = some (some (.ref f8))) (l8 : K.lookup f8 = some ⟨oc8, od8, .func (PySem.W.fnOf "days_left" "days_left" (defArgs s_days_left) (defBody s_days_left) (defScope s_days_left) .none kV8 dc8 pm8 an8 cd8 ct8), sl8⟩) (c8 : PySem.W.codeIn K cd8 "days_left" = true) (k8 : PySem.W.keepIn K (.ref f8) = true)
    {f9 : Addr} {od9 an9 : Option Addr} {sl9 : Array (Option Value)} {oc9 kV9 dc9 pm9 cd9 ct9 : Value}
    (a9 : PySem.W.nsIn K mainGlobals "days_to_try" = some (some (.ref f9))) (l9 : K.lookup f9 = some ⟨oc9, od9, .func (PySem.W.fnOf "days_to_try" "days_to_try" (defArgs s_days_to_try) (defBody s_days_to_try) (defScope s_days_to_try) .none kV9 dc9 pm9 an9 cd9 ct9), sl9⟩) (c9 : PySem.W.codeIn K cd9 "days_to_try" = true) (k9 : PySem.W.keepIn K (.ref f9) = true)
    {f10 : Addr} {od10 an10 : Option Addr} {sl10 : Array (Option Value)} {oc10 kV10 dc10 pm10 cd10 ct10 : Value}
    (a10 : PySem.W.nsIn K mainGlobals "with_day" = some (some (.ref f10))) (l10 : K.lookup f10 = some ⟨oc10, od10, .func (PySem.W.fnOf "with_day" "with_day" (defArgs s_with_day) (defBody s_with_day) (defScope s_with_day) .none kV10 dc10 pm10 an10 cd10 ct10), sl10⟩) (c10 : PySem.W.codeIn K cd10 "with_day" = true) (k10 : PySem.W.keepIn K (.ref f10) = true)
    {f11 : Addr} {od11 an11 : Option Addr} {sl11 : Array (Option Value)} {oc11 kV11 dc11 pm11 cd11 ct11 : Value}
    (a11 : PySem.W.nsIn K mainGlobals "shows_here" = some (some (.ref f11))) (l11 : K.lookup f11 = some ⟨oc11, od11, .func (PySem.W.fnOf "shows_here" "shows_here" (defArgs s_shows_here) (defBody s_shows_here) (defScope s_shows_here) .none kV11 dc11 pm11 an11 cd11 ct11), sl11⟩) (c11 : PySem.W.codeIn K cd11 "shows_here" = true) (k11 : PySem.W.keepIn K (.ref f11) = true)
    {f12 : Addr} {od12 an12 : Option Addr} {sl12 : Array (Option Value)} {oc12 kV12 dc12 pm12 cd12 ct12 : Value}
    (a12 : PySem.W.nsIn K mainGlobals "shows_tries" = some (some (.ref f12))) (l12 : K.lookup f12 = some ⟨oc12, od12, .func (PySem.W.fnOf "shows_tries" "shows_tries" (defArgs s_shows_tries) (defBody s_shows_tries) (defScope s_shows_tries) .none kV12 dc12 pm12 an12 cd12 ct12), sl12⟩) (c12 : PySem.W.codeIn K cd12 "shows_tries" = true) (k12 : PySem.W.keepIn K (.ref f12) = true)
    {f13 : Addr} {od13 an13 : Option Addr} {sl13 : Array (Option Value)} {oc13 kV13 dc13 pm13 cd13 ct13 : Value}
    (a13 : PySem.W.nsIn K mainGlobals "shows_class" = some (some (.ref f13))) (l13 : K.lookup f13 = some ⟨oc13, od13, .func (PySem.W.fnOf "shows_class" "shows_class" (defArgs s_shows_class) (defBody s_shows_class) (defScope s_shows_class) .none kV13 dc13 pm13 an13 cd13 ct13), sl13⟩) (c13 : PySem.W.codeIn K cd13 "shows_class" = true) (k13 : PySem.W.keepIn K (.ref f13) = true)
    {f14 : Addr} {od14 an14 : Option Addr} {sl14 : Array (Option Value)} {oc14 kV14 dc14 pm14 cd14 ct14 : Value}
    (a14 : PySem.W.nsIn K mainGlobals "is_homes" = some (some (.ref f14))) (l14 : K.lookup f14 = some ⟨oc14, od14, .func (PySem.W.fnOf "is_homes" "is_homes" (defArgs s_is_homes) (defBody s_is_homes) (defScope s_is_homes) .none kV14 dc14 pm14 an14 cd14 ct14), sl14⟩) (c14 : PySem.W.codeIn K cd14 "is_homes" = true) (k14 : PySem.W.keepIn K (.ref f14) = true)
    {f15 : Addr} {od15 an15 : Option Addr} {sl15 : Array (Option Value)} {oc15 kV15 dc15 pm15 cd15 ct15 : Value}
    (a15 : PySem.W.nsIn K mainGlobals "is_fair" = some (some (.ref f15))) (l15 : K.lookup f15 = some ⟨oc15, od15, .func (PySem.W.fnOf "is_fair" "is_fair" (defArgs s_is_fair) (defBody s_is_fair) (defScope s_is_fair) .none kV15 dc15 pm15 an15 cd15 ct15), sl15⟩) (c15 : PySem.W.codeIn K cd15 "is_fair" = true) (k15 : PySem.W.keepIn K (.ref f15) = true)
    {f16 : Addr} {od16 an16 : Option Addr} {sl16 : Array (Option Value)} {oc16 kV16 dc16 pm16 cd16 ct16 : Value}
    (a16 : PySem.W.nsIn K mainGlobals "start_of" = some (some (.ref f16))) (l16 : K.lookup f16 = some ⟨oc16, od16, .func (PySem.W.fnOf "start_of" "start_of" (defArgs s_start_of) (defBody s_start_of) (defScope s_start_of) .none kV16 dc16 pm16 an16 cd16 ct16), sl16⟩) (c16 : PySem.W.codeIn K cd16 "start_of" = true) (k16 : PySem.W.keepIn K (.ref f16) = true)
    {f17 : Addr} {od17 an17 : Option Addr} {sl17 : Array (Option Value)} {oc17 kV17 dc17 pm17 cd17 ct17 : Value}
    (a17 : PySem.W.nsIn K mainGlobals "fair_homes" = some (some (.ref f17))) (l17 : K.lookup f17 = some ⟨oc17, od17, .func (PySem.W.fnOf "fair_homes" "fair_homes" (defArgs s_fair_homes) (defBody s_fair_homes) (defScope s_fair_homes) .none kV17 dc17 pm17 an17 cd17 ct17), sl17⟩) (c17 : PySem.W.codeIn K cd17 "fair_homes" = true) (k17 : PySem.W.keepIn K (.ref f17) = true)
    {f18 : Addr} {od18 an18 : Option Addr} {sl18 : Array (Option Value)} {oc18 kV18 dc18 pm18 cd18 ct18 : Value}
    (a18 : PySem.W.nsIn K mainGlobals "is_even" = some (some (.ref f18))) (l18 : K.lookup f18 = some ⟨oc18, od18, .func (PySem.W.fnOf "is_even" "is_even" (defArgs s_is_even) (defBody s_is_even) (defScope s_is_even) .none kV18 dc18 pm18 an18 cd18 ct18), sl18⟩) (c18 : PySem.W.codeIn K cd18 "is_even" = true) (k18 : PySem.W.keepIn K (.ref f18) = true)
    {f19 : Addr} {od19 an19 : Option Addr} {sl19 : Array (Option Value)} {oc19 kV19 dc19 pm19 cd19 ct19 : Value}
    (a19 : PySem.W.nsIn K mainGlobals "shows_rooms" = some (some (.ref f19))) (l19 : K.lookup f19 = some ⟨oc19, od19, .func (PySem.W.fnOf "shows_rooms" "shows_rooms" (defArgs s_shows_rooms) (defBody s_shows_rooms) (defScope s_shows_rooms) .none kV19 dc19 pm19 an19 cd19 ct19), sl19⟩) (c19 : PySem.W.codeIn K cd19 "shows_rooms" = true) (k19 : PySem.W.keepIn K (.ref f19) = true)
    {f20 : Addr} {od20 an20 : Option Addr} {sl20 : Array (Option Value)} {oc20 kV20 dc20 pm20 cd20 ct20 : Value}
    (a20 : PySem.W.nsIn K mainGlobals "is_in_stretches" = some (some (.ref f20))) (l20 : K.lookup f20 = some ⟨oc20, od20, .func (PySem.W.fnOf "is_in_stretches" "is_in_stretches" (defArgs s_is_in_stretches) (defBody s_is_in_stretches) (defScope s_is_in_stretches) .none kV20 dc20 pm20 an20 cd20 ct20), sl20⟩) (c20 : PySem.W.codeIn K cd20 "is_in_stretches" = true) (k20 : PySem.W.keepIn K (.ref f20) = true)
    {f21 : Addr} {od21 an21 : Option Addr} {sl21 : Array (Option Value)} {oc21 kV21 dc21 pm21 cd21 ct21 : Value}
    (a21 : PySem.W.nsIn K mainGlobals "are_level" = some (some (.ref f21))) (l21 : K.lookup f21 = some ⟨oc21, od21, .func (PySem.W.fnOf "are_level" "are_level" (defArgs s_are_level) (defBody s_are_level) (defScope s_are_level) .none kV21 dc21 pm21 an21 cd21 ct21), sl21⟩) (c21 : PySem.W.codeIn K cd21 "are_level" = true) (k21 : PySem.W.keepIn K (.ref f21) = true)
    {f22 : Addr} {od22 an22 : Option Addr} {sl22 : Array (Option Value)} {oc22 kV22 dc22 pm22 cd22 ct22 : Value}
    (a22 : PySem.W.nsIn K mainGlobals "_law_deal" = some (some (.ref f22))) (l22 : K.lookup f22 = some ⟨oc22, od22, .func (PySem.W.fnOf "_law_deal" "_law_deal" (defArgs s__law_deal) (defBody s__law_deal) (defScope s__law_deal) .none kV22 dc22 pm22 an22 cd22 ct22), sl22⟩) (c22 : PySem.W.codeIn K cd22 "_law_deal" = true) (k22 : PySem.W.keepIn K (.ref f22) = true)
    {f23 : Addr} {od23 an23 : Option Addr} {sl23 : Array (Option Value)} {oc23 kV23 dc23 pm23 cd23 ct23 : Value}
    (a23 : PySem.W.nsIn K mainGlobals "_law_take" = some (some (.ref f23))) (l23 : K.lookup f23 = some ⟨oc23, od23, .func (PySem.W.fnOf "_law_take" "_law_take" (defArgs s__law_take) (defBody s__law_take) (defScope s__law_take) .none kV23 dc23 pm23 an23 cd23 ct23), sl23⟩) (c23 : PySem.W.codeIn K cd23 "_law_take" = true) (k23 : PySem.W.keepIn K (.ref f23) = true)
    {f24 : Addr} {od24 an24 : Option Addr} {sl24 : Array (Option Value)} {oc24 kV24 dc24 pm24 cd24 ct24 : Value}
    (a24 : PySem.W.nsIn K mainGlobals "_law_same" = some (some (.ref f24))) (l24 : K.lookup f24 = some ⟨oc24, od24, .func (PySem.W.fnOf "_law_same" "_law_same" (defArgs s__law_same) (defBody s__law_same) (defScope s__law_same) .none kV24 dc24 pm24 an24 cd24 ct24), sl24⟩) (c24 : PySem.W.codeIn K cd24 "_law_same" = true) (k24 : PySem.W.keepIn K (.ref f24) = true)
    {f25 : Addr} {od25 an25 : Option Addr} {sl25 : Array (Option Value)} {oc25 kV25 dc25 pm25 cd25 ct25 : Value}
    (a25 : PySem.W.nsIn K mainGlobals "_law_bool" = some (some (.ref f25))) (l25 : K.lookup f25 = some ⟨oc25, od25, .func (PySem.W.fnOf "_law_bool" "_law_bool" (defArgs s__law_bool) (defBody s__law_bool) (defScope s__law_bool) .none kV25 dc25 pm25 an25 cd25 ct25), sl25⟩) (c25 : PySem.W.codeIn K cd25 "_law_bool" = true) (k25 : PySem.W.keepIn K (.ref f25) = true)
    {f26 : Addr} {od26 an26 : Option Addr} {sl26 : Array (Option Value)} {oc26 kV26 dc26 pm26 cd26 ct26 : Value}
    (a26 : PySem.W.nsIn K mainGlobals "_law_pick" = some (some (.ref f26))) (l26 : K.lookup f26 = some ⟨oc26, od26, .func (PySem.W.fnOf "_law_pick" "_law_pick" (defArgs s__law_pick) (defBody s__law_pick) (defScope s__law_pick) .none kV26 dc26 pm26 an26 cd26 ct26), sl26⟩) (c26 : PySem.W.codeIn K cd26 "_law_pick" = true) (k26 : PySem.W.keepIn K (.ref f26) = true)
    {f27 : Addr} {od27 an27 : Option Addr} {sl27 : Array (Option Value)} {oc27 kV27 dc27 pm27 cd27 ct27 : Value}
    (a27 : PySem.W.nsIn K mainGlobals "_law_plain" = some (some (.ref f27))) (l27 : K.lookup f27 = some ⟨oc27, od27, .func (PySem.W.fnOf "_law_plain" "_law_plain" (defArgs s__law_plain) (defBody s__law_plain) (defScope s__law_plain) .none kV27 dc27 pm27 an27 cd27 ct27), sl27⟩) (c27 : PySem.W.codeIn K cd27 "_law_plain" = true) (k27 : PySem.W.keepIn K (.ref f27) = true)
    {f28 : Addr} {od28 an28 : Option Addr} {sl28 : Array (Option Value)} {oc28 kV28 dc28 pm28 cd28 ct28 : Value}
    (a28 : PySem.W.nsIn K mainGlobals "_law_sided" = some (some (.ref f28))) (l28 : K.lookup f28 = some ⟨oc28, od28, .func (PySem.W.fnOf "_law_sided" "_law_sided" (defArgs s__law_sided) (defBody s__law_sided) (defScope s__law_sided) .none kV28 dc28 pm28 an28 cd28 ct28), sl28⟩) (c28 : PySem.W.codeIn K cd28 "_law_sided" = true) (k28 : PySem.W.keepIn K (.ref f28) = true)
    {f29 : Addr} {od29 an29 : Option Addr} {sl29 : Array (Option Value)} {oc29 kV29 dc29 pm29 cd29 ct29 : Value}
    (a29 : PySem.W.nsIn K mainGlobals "_law_any" = some (some (.ref f29))) (l29 : K.lookup f29 = some ⟨oc29, od29, .func (PySem.W.fnOf "_law_any" "_law_any" (defArgs s__law_any) (defBody s__law_any) (defScope s__law_any) .none kV29 dc29 pm29 an29 cd29 ct29), sl29⟩) (c29 : PySem.W.codeIn K cd29 "_law_any" = true) (k29 : PySem.W.keepIn K (.ref f29) = true)
    {f30 : Addr} {od30 an30 : Option Addr} {sl30 : Array (Option Value)} {oc30 kV30 dc30 pm30 cd30 ct30 : Value}
    (a30 : PySem.W.nsIn K mainGlobals "_law_few" = some (some (.ref f30))) (l30 : K.lookup f30 = some ⟨oc30, od30, .func (PySem.W.fnOf "_law_few" "_law_few" (defArgs s__law_few) (defBody s__law_few) (defScope s__law_few) .none kV30 dc30 pm30 an30 cd30 ct30), sl30⟩) (c30 : PySem.W.codeIn K cd30 "_law_few" = true) (k30 : PySem.W.keepIn K (.ref f30) = true)
    {f31 : Addr} {od31 an31 : Option Addr} {sl31 : Array (Option Value)} {oc31 kV31 dc31 pm31 cd31 ct31 : Value}
    (a31 : PySem.W.nsIn K mainGlobals "_law_web" = some (some (.ref f31))) (l31 : K.lookup f31 = some ⟨oc31, od31, .func (PySem.W.fnOf "_law_web" "_law_web" (defArgs s__law_web) (defBody s__law_web) (defScope s__law_web) .none kV31 dc31 pm31 an31 cd31 ct31), sl31⟩) (c31 : PySem.W.codeIn K cd31 "_law_web" = true) (k31 : PySem.W.keepIn K (.ref f31) = true)
    {f32 : Addr} {od32 an32 : Option Addr} {sl32 : Array (Option Value)} {oc32 kV32 dc32 pm32 cd32 ct32 : Value}
    (a32 : PySem.W.nsIn K mainGlobals "_law_load" = some (some (.ref f32))) (l32 : K.lookup f32 = some ⟨oc32, od32, .func (PySem.W.fnOf "_law_load" "_law_load" (defArgs s__law_load) (defBody s__law_load) (defScope s__law_load) .none kV32 dc32 pm32 an32 cd32 ct32), sl32⟩) (c32 : PySem.W.codeIn K cd32 "_law_load" = true) (k32 : PySem.W.keepIn K (.ref f32) = true)
    {f33 : Addr} {od33 an33 : Option Addr} {sl33 : Array (Option Value)} {oc33 kV33 dc33 pm33 cd33 ct33 : Value}
    (a33 : PySem.W.nsIn K mainGlobals "_law_counts" = some (some (.ref f33))) (l33 : K.lookup f33 = some ⟨oc33, od33, .func (PySem.W.fnOf "_law_counts" "_law_counts" (defArgs s__law_counts) (defBody s__law_counts) (defScope s__law_counts) .none kV33 dc33 pm33 an33 cd33 ct33), sl33⟩) (c33 : PySem.W.codeIn K cd33 "_law_counts" = true) (k33 : PySem.W.keepIn K (.ref f33) = true)
    {f34 : Addr} {od34 an34 : Option Addr} {sl34 : Array (Option Value)} {oc34 kV34 dc34 pm34 cd34 ct34 : Value}
    (a34 : PySem.W.nsIn K mainGlobals "_law_clash" = some (some (.ref f34))) (l34 : K.lookup f34 = some ⟨oc34, od34, .func (PySem.W.fnOf "_law_clash" "_law_clash" (defArgs s__law_clash) (defBody s__law_clash) (defScope s__law_clash) .none kV34 dc34 pm34 an34 cd34 ct34), sl34⟩) (c34 : PySem.W.codeIn K cd34 "_law_clash" = true) (k34 : PySem.W.keepIn K (.ref f34) = true)
    {f35 : Addr} {od35 an35 : Option Addr} {sl35 : Array (Option Value)} {oc35 kV35 dc35 pm35 cd35 ct35 : Value}
    (a35 : PySem.W.nsIn K mainGlobals "_law_laid" = some (some (.ref f35))) (l35 : K.lookup f35 = some ⟨oc35, od35, .func (PySem.W.fnOf "_law_laid" "_law_laid" (defArgs s__law_laid) (defBody s__law_laid) (defScope s__law_laid) .none kV35 dc35 pm35 an35 cd35 ct35), sl35⟩) (c35 : PySem.W.codeIn K cd35 "_law_laid" = true) (k35 : PySem.W.keepIn K (.ref f35) = true)
    {f36 : Addr} {od36 an36 : Option Addr} {sl36 : Array (Option Value)} {oc36 kV36 dc36 pm36 cd36 ct36 : Value}
    (a36 : PySem.W.nsIn K mainGlobals "_law_is_right" = some (some (.ref f36))) (l36 : K.lookup f36 = some ⟨oc36, od36, .func (PySem.W.fnOf "_law_is_right" "_law_is_right" (defArgs s__law_is_right) (defBody s__law_is_right) (defScope s__law_is_right) .none kV36 dc36 pm36 an36 cd36 ct36), sl36⟩) (c36 : PySem.W.codeIn K cd36 "_law_is_right" = true) (k36 : PySem.W.keepIn K (.ref f36) = true)
    {f37 : Addr} {od37 an37 : Option Addr} {sl37 : Array (Option Value)} {oc37 kV37 dc37 pm37 cd37 ct37 : Value}
    (a37 : PySem.W.nsIn K mainGlobals "_law_changed" = some (some (.ref f37))) (l37 : K.lookup f37 = some ⟨oc37, od37, .func (PySem.W.fnOf "_law_changed" "_law_changed" (defArgs s__law_changed) (defBody s__law_changed) (defScope s__law_changed) .none kV37 dc37 pm37 an37 cd37 ct37), sl37⟩) (c37 : PySem.W.codeIn K cd37 "_law_changed" = true) (k37 : PySem.W.keepIn K (.ref f37) = true)
    {f38 : Addr} {od38 an38 : Option Addr} {sl38 : Array (Option Value)} {oc38 kV38 dc38 pm38 cd38 ct38 : Value}
    (a38 : PySem.W.nsIn K mainGlobals "_law_rooms" = some (some (.ref f38))) (l38 : K.lookup f38 = some ⟨oc38, od38, .func (PySem.W.fnOf "_law_rooms" "_law_rooms" (defArgs s__law_rooms) (defBody s__law_rooms) (defScope s__law_rooms) .none kV38 dc38 pm38 an38 cd38 ct38), sl38⟩) (c38 : PySem.W.codeIn K cd38 "_law_rooms" = true) (k38 : PySem.W.keepIn K (.ref f38) = true)
    {f39 : Addr} {od39 an39 : Option Addr} {sl39 : Array (Option Value)} {oc39 kV39 dc39 pm39 cd39 ct39 : Value}
    (a39 : PySem.W.nsIn K mainGlobals "_law_even" = some (some (.ref f39))) (l39 : K.lookup f39 = some ⟨oc39, od39, .func (PySem.W.fnOf "_law_even" "_law_even" (defArgs s__law_even) (defBody s__law_even) (defScope s__law_even) .none kV39 dc39 pm39 an39 cd39 ct39), sl39⟩) (c39 : PySem.W.codeIn K cd39 "_law_even" = true) (k39 : PySem.W.keepIn K (.ref f39) = true)
    {f40 : Addr} {od40 an40 : Option Addr} {sl40 : Array (Option Value)} {oc40 kV40 dc40 pm40 cd40 ct40 : Value}
    (a40 : PySem.W.nsIn K mainGlobals "_law_level" = some (some (.ref f40))) (l40 : K.lookup f40 = some ⟨oc40, od40, .func (PySem.W.fnOf "_law_level" "_law_level" (defArgs s__law_level) (defBody s__law_level) (defScope s__law_level) .none kV40 dc40 pm40 an40 cd40 ct40), sl40⟩) (c40 : PySem.W.codeIn K cd40 "_law_level" = true) (k40 : PySem.W.keepIn K (.ref f40) = true)
    {f41 : Addr} {od41 an41 : Option Addr} {sl41 : Array (Option Value)} {oc41 kV41 dc41 pm41 cd41 ct41 : Value}
    (a41 : PySem.W.nsIn K mainGlobals "_law_weeks" = some (some (.ref f41))) (l41 : K.lookup f41 = some ⟨oc41, od41, .func (PySem.W.fnOf "_law_weeks" "_law_weeks" (defArgs s__law_weeks) (defBody s__law_weeks) (defScope s__law_weeks) .none kV41 dc41 pm41 an41 cd41 ct41), sl41⟩) (c41 : PySem.W.codeIn K cd41 "_law_weeks" = true) (k41 : PySem.W.keepIn K (.ref f41) = true)
    {f42 : Addr} {od42 an42 : Option Addr} {sl42 : Array (Option Value)} {oc42 kV42 dc42 pm42 cd42 ct42 : Value}
    (a42 : PySem.W.nsIn K mainGlobals "_law_stretches" = some (some (.ref f42))) (l42 : K.lookup f42 = some ⟨oc42, od42, .func (PySem.W.fnOf "_law_stretches" "_law_stretches" (defArgs s__law_stretches) (defBody s__law_stretches) (defScope s__law_stretches) .none kV42 dc42 pm42 an42 cd42 ct42), sl42⟩) (c42 : PySem.W.codeIn K cd42 "_law_stretches" = true) (k42 : PySem.W.keepIn K (.ref f42) = true)
    {f43 : Addr} {od43 an43 : Option Addr} {sl43 : Array (Option Value)} {oc43 kV43 dc43 pm43 cd43 ct43 : Value}
    (a43 : PySem.W.nsIn K mainGlobals "_law_homes" = some (some (.ref f43))) (l43 : K.lookup f43 = some ⟨oc43, od43, .func (PySem.W.fnOf "_law_homes" "_law_homes" (defArgs s__law_homes) (defBody s__law_homes) (defScope s__law_homes) .none kV43 dc43 pm43 an43 cd43 ct43), sl43⟩) (c43 : PySem.W.codeIn K cd43 "_law_homes" = true) (k43 : PySem.W.keepIn K (.ref f43) = true)
    {f44 : Addr} {od44 an44 : Option Addr} {sl44 : Array (Option Value)} {oc44 kV44 dc44 pm44 cd44 ct44 : Value}
    (a44 : PySem.W.nsIn K mainGlobals "law" = some (some (.ref f44))) (l44 : K.lookup f44 = some ⟨oc44, od44, .func (PySem.W.fnOf "law" "law" (defArgs s_law) (defBody s_law) (defScope s_law) .none kV44 dc44 pm44 an44 cd44 ct44), sl44⟩) (c44 : PySem.W.codeIn K cd44 "law" = true) (k44 : PySem.W.keepIn K (.ref f44) = true)
    (z_abs : PySem.W.nsIn K mainGlobals "abs" = some none)
    (z_bool : PySem.W.nsIn K mainGlobals "bool" = some none)
    (z_int : PySem.W.nsIn K mainGlobals "int" = some none)
    (z_isinstance : PySem.W.nsIn K mainGlobals "isinstance" = some none)
    (z_len : PySem.W.nsIn K mainGlobals "len" = some none)
    (z_list : PySem.W.nsIn K mainGlobals "list" = some none)
    (z_max : PySem.W.nsIn K mainGlobals "max" = some none)
    (z_min : PySem.W.nsIn K mainGlobals "min" = some none)
    (z_range : PySem.W.nsIn K mainGlobals "range" = some none)
    (z_set : PySem.W.nsIn K mainGlobals "set" = some none)
    (z_str : PySem.W.nsIn K mainGlobals "str" = some none)
    (z_sum : PySem.W.nsIn K mainGlobals "sum" = some none)
    (z_tuple : PySem.W.nsIn K mainGlobals "tuple" = some none)
    (pure_law : ∀ ns : List Int, ns.length ≤ 63 → ∃ m', m_law [.d (.scr ns)] [] = some (.d (.bl true), m')) :
    ∃ fd : FuncData, (∀ (s : Shared) (v : Value), BindsTo s fd ⟨[v], []⟩ [("script", v)]) ∧ ∀ base : Heap, K.In base → base.Ns mainGlobals mg → FnOk l.prog w K mg base CX0 9 fa fd ["script"] (spLaw K) := by
  have e := hfa.symm.trans (PySem.W.mg_of X G a44)
  cases e
  have T : Tops K mg := ⟨PySem.W.mg_none_of X G z_abs, PySem.W.mg_none_of X G z_bool, PySem.W.mg_none_of X G z_int, PySem.W.mg_none_of X G z_isinstance, PySem.W.mg_none_of X G z_len, PySem.W.mg_none_of X G z_list, PySem.W.mg_none_of X G z_max, PySem.W.mg_none_of X G z_min, PySem.W.mg_none_of X G z_range, PySem.W.mg_none_of X G z_set, PySem.W.mg_none_of X G z_str, PySem.W.mg_none_of X G z_sum, PySem.W.mg_none_of X G z_tuple⟩
  have Z_meetings_of := at_of (x := "meetings_of") (ps := ["web", "person"]) (st := s_meetings_of) X G a0 l0 c0 k0 (fun _ _ _ _ _ _ us hl => match us, hl with | [_, _], _ => rfl)
  have Z_load := at_of (x := "load") (ps := ["web", "person"]) (st := s_load) X G a1 l1 c1 k1 (fun _ _ _ _ _ _ us hl => match us, hl with | [_, _], _ => rfl)
  have Z_greatest_load := at_of (x := "greatest_load") (ps := ["web"]) (st := s_greatest_load) X G a2 l2 c2 k2 (fun _ _ _ _ _ _ us hl => match us, hl with | [_], _ => rfl)
  have Z_clash := at_of (x := "clash") (ps := ["web", "i", "j"]) (st := s_clash) X G a3 l3 c3 k3 (fun _ _ _ _ _ _ us hl => match us, hl with | [_, _, _], _ => rfl)
  have Z_clashing := at_of (x := "clashing") (ps := ["web", "i"]) (st := s_clashing) X G a4 l4 c4 k4 (fun _ _ _ _ _ _ us hl => match us, hl with | [_, _], _ => rfl)
  have Z_other_of := at_of (x := "other_of") (ps := ["web", "i", "person"]) (st := s_other_of) X G a5 l5 c5 k5 (fun _ _ _ _ _ _ us hl => match us, hl with | [_, _, _], _ => rfl)
  have Z_is_right := at_of (x := "is_right") (ps := ["web", "plan", "k"]) (st := s_is_right) X G a6 l6 c6 k6 (fun _ _ _ _ _ _ us hl => match us, hl with | [_, _, _], _ => rfl)
  have Z_day_counts := at_of (x := "day_counts") (ps := ["plan", "k"]) (st := s_day_counts) X G a7 l7 c7 k7 (fun _ _ _ _ _ _ us hl => match us, hl with | [_, _], _ => rfl)
  have Z_days_left := at_of (x := "days_left") (ps := ["web", "days", "i", "k"]) (st := s_days_left) X G a8 l8 c8 k8 (fun _ _ _ _ _ _ us hl => match us, hl with | [_, _, _, _], _ => rfl)
  have Z_days_to_try := at_of (x := "days_to_try") (ps := ["web", "days", "i", "k"]) (st := s_days_to_try) X G a9 l9 c9 k9 (fun _ _ _ _ _ _ us hl => match us, hl with | [_, _, _, _], _ => rfl)
  have Z_with_day := at_of (x := "with_day") (ps := ["days", "i", "day"]) (st := s_with_day) X G a10 l10 c10 k10 (fun _ _ _ _ _ _ us hl => match us, hl with | [_, _, _], _ => rfl)
  have Z_shows_here := at_of (x := "shows_here") (ps := ["web", "k", "days", "paper"]) (st := s_shows_here) X G a11 l11 c11 k11 (fun _ _ _ _ _ _ us hl => match us, hl with | [_, _, _, _], _ => rfl)
  have Z_shows_tries := at_of (x := "shows_tries") (ps := ["web", "k", "paper"]) (st := s_shows_tries) X G a12 l12 c12 k12 (fun _ _ _ _ _ _ us hl => match us, hl with | [_, _, _], _ => rfl)
  have Z_shows_class := at_of (x := "shows_class") (ps := ["web", "paper"]) (st := s_shows_class) X G a13 l13 c13 k13 (fun _ _ _ _ _ _ us hl => match us, hl with | [_, _], _ => rfl)
  have Z_is_homes := at_of (x := "is_homes") (ps := ["web", "homes"]) (st := s_is_homes) X G a14 l14 c14 k14 (fun _ _ _ _ _ _ us hl => match us, hl with | [_, _], _ => rfl)
  have Z_is_fair := at_of (x := "is_fair") (ps := ["web", "homes"]) (st := s_is_fair) X G a15 l15 c15 k15 (fun _ _ _ _ _ _ us hl => match us, hl with | [_, _], _ => rfl)
  have Z_start_of := at_of (x := "start_of") (ps := ["web", "left"]) (st := s_start_of) X G a16 l16 c16 k16 (fun _ _ _ _ _ _ us hl => match us, hl with | [_, _], _ => rfl)
  have Z_fair_homes := at_of (x := "fair_homes") (ps := ["web"]) (st := s_fair_homes) X G a17 l17 c17 k17 (fun _ _ _ _ _ _ us hl => match us, hl with | [_], _ => rfl)
  have Z_is_even := at_of (x := "is_even") (ps := ["plan", "k"]) (st := s_is_even) X G a18 l18 c18 k18 (fun _ _ _ _ _ _ us hl => match us, hl with | [_, _], _ => rfl)
  have Z_shows_rooms := at_of (x := "shows_rooms") (ps := ["web", "k", "r", "plan"]) (st := s_shows_rooms) X G a19 l19 c19 k19 (fun _ _ _ _ _ _ us hl => match us, hl with | [_, _, _, _], _ => rfl)
  have Z_is_in_stretches := at_of (x := "is_in_stretches") (ps := ["web", "plan"]) (st := s_is_in_stretches) X G a20 l20 c20 k20 (fun _ _ _ _ _ _ us hl => match us, hl with | [_, _], _ => rfl)
  have Z_are_level := at_of (x := "are_level") (ps := ["web", "weeks", "k"]) (st := s_are_level) X G a21 l21 c21 k21 (fun _ _ _ _ _ _ us hl => match us, hl with | [_, _, _], _ => rfl)
  have Z__law_deal := at_of (x := "_law_deal") (ps := ["script"]) (st := s__law_deal) X G a22 l22 c22 k22 (fun _ _ _ _ _ _ us hl => match us, hl with | [_], _ => rfl)
  have Z__law_take := at_of (x := "_law_take") (ps := ["deal", "many"]) (st := s__law_take) X G a23 l23 c23 k23 (fun _ _ _ _ _ _ us hl => match us, hl with | [_, _], _ => rfl)
  have Z__law_same := at_of (x := "_law_same") (ps := ["a", "b"]) (st := s__law_same) X G a24 l24 c24 k24 (fun _ _ _ _ _ _ us hl => match us, hl with | [_, _], _ => rfl)
  have Z__law_bool := at_of (x := "_law_bool") (ps := ["answer", "due"]) (st := s__law_bool) X G a25 l25 c25 k25 (fun _ _ _ _ _ _ us hl => match us, hl with | [_, _], _ => rfl)
  have Z__law_pick := at_of (x := "_law_pick") (ps := ["deal", "things"]) (st := s__law_pick) X G a26 l26 c26 k26 (fun _ _ _ _ _ _ us hl => match us, hl with | [_, _], _ => rfl)
  have Z__law_plain := at_of (x := "_law_plain") (ps := ["deal", "most", "limit"]) (st := s__law_plain) X G a27 l27 c27 k27 (fun _ _ _ _ _ _ us hl => match us, hl with | [_, _, _], _ => rfl)
  have Z__law_sided := at_of (x := "_law_sided") (ps := ["deal", "most", "limit"]) (st := s__law_sided) X G a28 l28 c28 k28 (fun _ _ _ _ _ _ us hl => match us, hl with | [_, _, _], _ => rfl)
  have Z__law_any := at_of (x := "_law_any") (ps := ["deal", "limit"]) (st := s__law_any) X G a29 l29 c29 k29 (fun _ _ _ _ _ _ us hl => match us, hl with | [_, _], _ => rfl)
  have Z__law_few := at_of (x := "_law_few") (ps := ["deal"]) (st := s__law_few) X G a30 l30 c30 k30 (fun _ _ _ _ _ _ us hl => match us, hl with | [_], _ => rfl)
  have Z__law_web := at_of (x := "_law_web") (ps := ["deal", "limit"]) (st := s__law_web) X G a31 l31 c31 k31 (fun _ _ _ _ _ _ us hl => match us, hl with | [_, _], _ => rfl)
  have Z__law_load := at_of (x := "_law_load") (ps := ["web"]) (st := s__law_load) X G a32 l32 c32 k32 (fun _ _ _ _ _ _ us hl => match us, hl with | [_], _ => rfl)
  have Z__law_counts := at_of (x := "_law_counts") (ps := ["plan", "k"]) (st := s__law_counts) X G a33 l33 c33 k33 (fun _ _ _ _ _ _ us hl => match us, hl with | [_, _], _ => rfl)
  have Z__law_clash := at_of (x := "_law_clash") (ps := ["web", "i", "j"]) (st := s__law_clash) X G a34 l34 c34 k34 (fun _ _ _ _ _ _ us hl => match us, hl with | [_, _, _], _ => rfl)
  have Z__law_laid := at_of (x := "_law_laid") (ps := ["deal", "web", "k"]) (st := s__law_laid) X G a35 l35 c35 k35 (fun _ _ _ _ _ _ us hl => match us, hl with | [_, _, _], _ => rfl)
  have Z__law_is_right := at_of (x := "_law_is_right") (ps := ["web", "plan", "k"]) (st := s__law_is_right) X G a36 l36 c36 k36 (fun _ _ _ _ _ _ us hl => match us, hl with | [_, _, _], _ => rfl)
  have Z__law_changed := at_of (x := "_law_changed") (ps := ["deal", "web", "plan", "k"]) (st := s__law_changed) X G a37 l37 c37 k37 (fun _ _ _ _ _ _ us hl => match us, hl with | [_, _, _, _], _ => rfl)
  have Z__law_rooms := at_of (x := "_law_rooms") (ps := ["web", "plan", "k"]) (st := s__law_rooms) X G a38 l38 c38 k38 (fun _ _ _ _ _ _ us hl => match us, hl with | [_, _, _], _ => rfl)
  have Z__law_even := at_of (x := "_law_even") (ps := ["deal"]) (st := s__law_even) X G a39 l39 c39 k39 (fun _ _ _ _ _ _ us hl => match us, hl with | [_], _ => rfl)
  have Z__law_level := at_of (x := "_law_level") (ps := ["web", "numbers", "k"]) (st := s__law_level) X G a40 l40 c40 k40 (fun _ _ _ _ _ _ us hl => match us, hl with | [_, _, _], _ => rfl)
  have Z__law_weeks := at_of (x := "_law_weeks") (ps := ["deal", "web", "plan", "k"]) (st := s__law_weeks) X G a41 l41 c41 k41 (fun _ _ _ _ _ _ us hl => match us, hl with | [_, _, _, _], _ => rfl)
  have Z__law_stretches := at_of (x := "_law_stretches") (ps := ["deal", "web", "plan"]) (st := s__law_stretches) X G a42 l42 c42 k42 (fun _ _ _ _ _ _ us hl => match us, hl with | [_, _, _], _ => rfl)
  have Z__law_homes := at_of (x := "_law_homes") (ps := ["deal", "web"]) (st := s__law_homes) X G a43 l43 c43 k43 (fun _ _ _ _ _ _ us hl => match us, hl with | [_, _], _ => rfl)
  have Z_law := at_of (x := "law") (ps := ["script"]) (st := s_law) X G a44 l44 c44 k44 (fun _ _ _ _ _ _ us hl => match us, hl with | [_], _ => rfl)
  exact ⟨_, fun s v => .of_eq rfl, fun base _ _ => (ok_all T Z_meetings_of Z_load Z_greatest_load Z_clash Z_clashing Z_other_of Z_is_right Z_day_counts Z_days_left Z_days_to_try Z_with_day Z_shows_here Z_shows_tries Z_shows_class Z_is_homes Z_is_fair Z_start_of Z_fair_homes Z_is_even Z_shows_rooms Z_is_in_stretches Z_are_level Z__law_deal Z__law_take Z__law_same Z__law_bool Z__law_pick Z__law_plain Z__law_sided Z__law_any Z__law_few Z__law_web Z__law_load Z__law_counts Z__law_clash Z__law_laid Z__law_is_right Z__law_changed Z__law_rooms Z__law_even Z__law_level Z__law_weeks Z__law_stretches Z__law_homes Z_law).imp (law_imp pure_law)⟩
section
end
end Lw
open PySem PySem.W PyProof.Rows
set_option maxHeartbeats 0 in
theorem PySem.Challenge.cw_meetingdays_k34_judges_of_days_holds : PySem.Challenge.rw_meetingdays_k34_judges_of_days.Holds := by
  w_on; o_law; k_head; (case hw => w_witness2)
  k_fill
  refine L2.walk_of (l := PySem.Challenge.rw_meetingdays_k34_judges_of_days) (n := 63) (k := 9) (x := "script") (CX := fun _ => L2.CX0) (sp := fun w => PL.spLaw _) rfl (by decide) rfl ⟨rfl, by decide, by decide⟩ (fun w h Y => PySem.W.kIn_of Y) ?F (fun _ _ a ns hl _ hS => ⟨a, ns, rfl, hS, hl, fun _ => rfl⟩) (fun _ _ _ _ _ h => h)
  case F =>
    intro w mg fa h KX G hmg
    refine' Lw.all_mk KX G hmg ?a0 ?l0 ?c0 ?k0 ?a1 ?l1 ?c1 ?k1 ?a2 ?l2 ?c2 ?k2 ?a3 ?l3 ?c3 ?k3 ?a4 ?l4 ?c4 ?k4 ?a5 ?l5 ?c5 ?k5 ?a6 ?l6 ?c6 ?k6 ?a7 ?l7 ?c7 ?k7 ?a8 ?l8 ?c8 ?k8 ?a9 ?l9 ?c9 ?k9 ?a10 ?l10 ?c10 ?k10 ?a11 ?l11 ?c11 ?k11 ?a12 ?l12 ?c12 ?k12 ?a13 ?l13 ?c13 ?k13 ?a14 ?l14 ?c14 ?k14 ?a15 ?l15 ?c15 ?k15 ?a16 ?l16 ?c16 ?k16 ?a17 ?l17 ?c17 ?k17 ?a18 ?l18 ?c18 ?k18 ?a19 ?l19 ?c19 ?k19 ?a20 ?l20 ?c20 ?k20 ?a21 ?l21 ?c21 ?k21 ?a22 ?l22 ?c22 ?k22 ?a23 ?l23 ?c23 ?k23 ?a24 ?l24 ?c24 ?k24 ?a25 ?l25 ?c25 ?k25 ?a26 ?l26 ?c26 ?k26 ?a27 ?l27 ?c27 ?k27 ?a28 ?l28 ?c28 ?k28 ?a29 ?l29 ?c29 ?k29 ?a30 ?l30 ?c30 ?k30 ?a31 ?l31 ?c31 ?k31 ?a32 ?l32 ?c32 ?k32 ?a33 ?l33 ?c33 ?k33 ?a34 ?l34 ?c34 ?k34 ?a35 ?l35 ?c35 ?k35 ?a36 ?l36 ?c36 ?k36 ?a37 ?l37 ?c37 ?k37 ?a38 ?l38 ?c38 ?k38 ?a39 ?l39 ?c39 ?k39 ?a40 ?l40 ?c40 ?k40 ?a41 ?l41 ?c41 ?k41 ?a42 ?l42 ?c42 ?k42 ?a43 ?l43 ?c43 ?k43 ?a44 ?l44 ?c44 ?k44 ?z_abs ?z_bool ?z_int ?z_isinstance ?z_len ?z_list ?z_max ?z_min ?z_range ?z_set ?z_str ?z_sum ?z_tuple Lw.pure_law
    (case a0 => k_is)
    (case l0 => k_is)
    (case c0 => k_is)
    (case k0 => k_is)
    (case a1 => k_is)
    (case l1 => k_is)
    (case c1 => k_is)
    (case k1 => k_is)
    (case a2 => k_is)
    (case l2 => k_is)
    (case c2 => k_is)
    (case k2 => k_is)
    (case a3 => k_is)
    (case l3 => k_is)
    (case c3 => k_is)
    (case k3 => k_is)
    (case a4 => k_is)
    (case l4 => k_is)
    (case c4 => k_is)
    (case k4 => k_is)
    (case a5 => k_is)
    (case l5 => k_is)
    (case c5 => k_is)
    (case k5 => k_is)
    (case a6 => k_is)
    (case l6 => k_is)
    (case c6 => k_is)
    (case k6 => k_is)
    (case a7 => k_is)
    (case l7 => k_is)
    (case c7 => k_is)
    (case k7 => k_is)
    (case a8 => k_is)
    (case l8 => k_is)
    (case c8 => k_is)
    (case k8 => k_is)
    (case a9 => k_is)
    (case l9 => k_is)
    (case c9 => k_is)
    (case k9 => k_is)
    (case a10 => k_is)
    (case l10 => k_is)
    (case c10 => k_is)
    (case k10 => k_is)
    (case a11 => k_is)
    (case l11 => k_is)
    (case c11 => k_is)
    (case k11 => k_is)
    (case a12 => k_is)
    (case l12 => k_is)
    (case c12 => k_is)
    (case k12 => k_is)
    (case a13 => k_is)
    (case l13 => k_is)
    (case c13 => k_is)
    (case k13 => k_is)
    (case a14 => k_is)
    (case l14 => k_is)
    (case c14 => k_is)
    (case k14 => k_is)
    (case a15 => k_is)
    (case l15 => k_is)
    (case c15 => k_is)
    (case k15 => k_is)
    (case a16 => k_is)
    (case l16 => k_is)
    (case c16 => k_is)
    (case k16 => k_is)
    (case a17 => k_is)
    (case l17 => k_is)
    (case c17 => k_is)
    (case k17 => k_is)
    (case a18 => k_is)
    (case l18 => k_is)
    (case c18 => k_is)
    (case k18 => k_is)
    (case a19 => k_is)
    (case l19 => k_is)
    (case c19 => k_is)
    (case k19 => k_is)
    (case a20 => k_is)
    (case l20 => k_is)
    (case c20 => k_is)
    (case k20 => k_is)
    (case a21 => k_is)
    (case l21 => k_is)
    (case c21 => k_is)
    (case k21 => k_is)
    (case a22 => k_is)
    (case l22 => k_is)
    (case c22 => k_is)
    (case k22 => k_is)
    (case a23 => k_is)
    (case l23 => k_is)
    (case c23 => k_is)
    (case k23 => k_is)
    (case a24 => k_is)
    (case l24 => k_is)
    (case c24 => k_is)
    (case k24 => k_is)
    (case a25 => k_is)
    (case l25 => k_is)
    (case c25 => k_is)
    (case k25 => k_is)
    (case a26 => k_is)
    (case l26 => k_is)
    (case c26 => k_is)
    (case k26 => k_is)
    (case a27 => k_is)
    (case l27 => k_is)
    (case c27 => k_is)
    (case k27 => k_is)
    (case a28 => k_is)
    (case l28 => k_is)
    (case c28 => k_is)
    (case k28 => k_is)
    (case a29 => k_is)
    (case l29 => k_is)
    (case c29 => k_is)
    (case k29 => k_is)
    (case a30 => k_is)
    (case l30 => k_is)
    (case c30 => k_is)
    (case k30 => k_is)
    (case a31 => k_is)
    (case l31 => k_is)
    (case c31 => k_is)
    (case k31 => k_is)
    (case a32 => k_is)
    (case l32 => k_is)
    (case c32 => k_is)
    (case k32 => k_is)
    (case a33 => k_is)
    (case l33 => k_is)
    (case c33 => k_is)
    (case k33 => k_is)
    (case a34 => k_is)
    (case l34 => k_is)
    (case c34 => k_is)
    (case k34 => k_is)
    (case a35 => k_is)
    (case l35 => k_is)
    (case c35 => k_is)
    (case k35 => k_is)
    (case a36 => k_is)
    (case l36 => k_is)
    (case c36 => k_is)
    (case k36 => k_is)
    (case a37 => k_is)
    (case l37 => k_is)
    (case c37 => k_is)
    (case k37 => k_is)
    (case a38 => k_is)
    (case l38 => k_is)
    (case c38 => k_is)
    (case k38 => k_is)
    (case a39 => k_is)
    (case l39 => k_is)
    (case c39 => k_is)
    (case k39 => k_is)
    (case a40 => k_is)
    (case l40 => k_is)
    (case c40 => k_is)
    (case k40 => k_is)
    (case a41 => k_is)
    (case l41 => k_is)
    (case c41 => k_is)
    (case k41 => k_is)
    (case a42 => k_is)
    (case l42 => k_is)
    (case c42 => k_is)
    (case k42 => k_is)
    (case a43 => k_is)
    (case l43 => k_is)
    (case c43 => k_is)
    (case k43 => k_is)
    (case a44 => k_is)
    (case l44 => k_is)
    (case c44 => k_is)
    (case k44 => k_is)
    (case z_abs => k_is)
    (case z_bool => k_is)
    (case z_int => k_is)
    (case z_isinstance => k_is)
    (case z_len => k_is)
    (case z_list => k_is)
    (case z_max => k_is)
    (case z_min => k_is)
    (case z_range => k_is)
    (case z_set => k_is)
    (case z_str => k_is)
    (case z_sum => k_is)
    (case z_tuple => k_is)
