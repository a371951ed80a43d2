import PyProof.Rows.All
import HandS.ForMost
import HandS.TupAny
import HandS.Conv
import HandS.Deep
import HandS.Style
import HandS.TryOnly
import HandS.IsInst
import HandS.SetFor
import HandS.Zip
import HandS.DictComp
import HandS.SortInts
import HandS.More
import KE.DataMinMax
import KE.SortData
import PySem.Challenge.RW_meetingdays_k15_whole_counts_of_plans
set_option Elab.async false
set_option linter.all false
set_option maxRecDepth 100000
set_option maxHeartbeats 4000000
/-! PL1: pure data over the hand layer: values as trees, owned cells, judgements by functions. -/
namespace PL
open PySem PySem.Spec L2
set_option autoImplicit false

inductive D where
  | non | bl (b : Bool) | int (i : Int) | str (x : Str) | tup (xs : List D) | lst (xs : List D)
  | dic (kvs : List (Key × D)) | dicT (kvs : List (List Key × D)) | scr (xs : List Int)
noncomputable instance : DecidableEq D := fun _ _ => Classical.propDecidable _
inductive E where
  | d (x : D) | own (c : Nat) | deal (row : List Int) (c : Nat) (t : Int)
inductive O where
  | lst (xs : List D) | dic (kvs : List (Key × D)) | dicT (kvs : List (List Key × D)) | frz (x : D)
abbrev Store := List O
abbrev Rho := List (Option E)

def isDct : HO → Bool
  | .dK _ => true
  | .dT _ => true
  | _ => false
/-- what stands in the frozen part stays; dicts may get locked -/
def Sm (F F' : Hp) : Prop := ∀ a o, F a = some o → F' a = some o ∨ (isDct o = true ∧ ∃ od, F' a = some (.frz od o))
theorem Sm.refl (F : Hp) : Sm F F := fun _ _ h => .inl h
theorem Sm.ex {F F' : Hp} (h : Sm F F') {a : Addr} {o : HO} (n : isDct o = false) (q : F a = some o) : F' a = some o := by
  rcases h a o q with w | ⟨w, _⟩
  · exact w
  · rw [n] at w; cases w
theorem Sm.trans {F F' F2 : Hp} (h : Sm F F') (g : Sm F' F2) : Sm F F2 := fun a o q => by
  rcases h a o q with w | ⟨n, od, w⟩
  · exact g a o w
  · exact .inr ⟨n, od, g.ex rfl w⟩
mutual
inductive Rep (K : PySem.W.Frag) (F : Hp) : V → D → Prop
  | non : Rep K F .non .non
  | bl {b : Bool} : Rep K F (.bl b) (.bl b)
  | int {i : Int} : Rep K F (.int i) (.int i)
  | str {x : Str} : Rep K F (.str x) (.str x)
  | tup {a : Addr} {vs : List V} {ds : List D} : F a = some (.tup vs) → vs.length ≤ sizeLine → Reps K F vs ds → Rep K F (.ref a) (.tup ds)
  | lst {a : Addr} {vs : List V} {ds : List D} : F a = some (.lst vs) → vs.length ≤ sizeLine → Reps K F vs ds → Rep K F (.ref a) (.lst ds)
  | dic {a : Addr} {vs : List (Key × V)} {ds : List (Key × D)} : F a = some (.dK vs) → KReps K F vs ds → Rep K F (.ref a) (.dic ds)
  | dicF {a : Addr} {od : Obj} {vs : List (Key × V)} {ds : List (Key × D)} : F a = some (.frz od (.dK vs)) → KReps K F vs ds → Rep K F (.ref a) (.dic ds)
  | dicT {a : Addr} {vs : List (List Key × V)} {ds : List (List Key × D)} : F a = some (.dT vs) → TReps K F vs ds → Rep K F (.ref a) (.dicT ds)
  | dicTF {a : Addr} {od : Obj} {vs : List (List Key × V)} {ds : List (List Key × D)} : F a = some (.frz od (.dT vs)) → TReps K F vs ds → Rep K F (.ref a) (.dicT ds)
  | scr {a : Addr} {ns : List Int} : SqL K F a (ns.map V.int) → ns.length ≤ sizeLine → Rep K F (.ref a) (.scr ns)
inductive Reps (K : PySem.W.Frag) (F : Hp) : List V → List D → Prop
  | nil : Reps K F [] []
  | cons {v : V} {d : D} {vs : List V} {ds : List D} : Rep K F v d → Reps K F vs ds → Reps K F (v :: vs) (d :: ds)
inductive KReps (K : PySem.W.Frag) (F : Hp) : List (Key × V) → List (Key × D) → Prop
  | nil : KReps K F [] []
  | cons {k : Key} {v : V} {d : D} {vs : List (Key × V)} {ds : List (Key × D)} : Rep K F v d → KReps K F vs ds → KReps K F ((k, v) :: vs) ((k, d) :: ds)
inductive TReps (K : PySem.W.Frag) (F : Hp) : List (List Key × V) → List (List Key × D) → Prop
  | nil : TReps K F [] []
  | cons {k : List Key} {v : V} {d : D} {vs : List (List Key × V)} {ds : List (List Key × D)} : Rep K F v d → TReps K F vs ds → TReps K F ((k, v) :: vs) ((k, d) :: ds)
end

/-- the frozen part lies in the heap; its dicts may be locked -/
def FSub (F H : Hp) : Prop := ∀ a o, F a = some o → H a = some o ∨ (isDct o = true ∧ ∃ od, H a = some (.frz od o))

section
variable {K : PySem.W.Frag} {F F' H H' : Hp}
theorem SqT.mono {a : Addr} {vs : List V} (h : Sm F F') (r : SqT K F a vs) : SqT K F' a vs := by
  rcases r with (r | ⟨o, r⟩) | r
  · exact .inl (.inl (h.ex rfl r))
  · exact .inl (.inr ⟨o, h.ex rfl r⟩)
  · exact .inr r
theorem SqL.mono {a : Addr} {vs : List V} (h : Sm F F') (r : SqL K F a vs) : SqL K F' a vs := by
  rcases r with (r | ⟨o, r⟩) | r
  · exact .inl (.inl (h.ex rfl r))
  · exact .inl (.inr ⟨o, h.ex rfl r⟩)
  · exact .inr r
mutual
theorem Rep.mono (h : Sm F F') : ∀ {v : V} {d : D}, Rep K F v d → Rep K F' v d
  | _, _, .non => .non
  | _, _, .bl => .bl
  | _, _, .int => .int
  | _, _, .str => .str
  | _, _, .tup a z b => .tup (h.ex rfl a) z (Reps.mono h b)
  | _, _, .lst a z b => .lst (h.ex rfl a) z (Reps.mono h b)
  | _, _, .dic a b => have c := KReps.mono h b; (h _ _ a).elim (fun q => .dic q c) fun ⟨_, od, q⟩ => .dicF q c
  | _, _, .dicT a b => have c := TReps.mono h b; (h _ _ a).elim (fun q => .dicT q c) fun ⟨_, od, q⟩ => .dicTF q c
  | _, _, .dicF a b => .dicF (h.ex rfl a) (KReps.mono h b)
  | _, _, .dicTF a b => .dicTF (h.ex rfl a) (TReps.mono h b)
  | _, _, .scr a z => .scr (SqL.mono h a) z
theorem Reps.mono (h : Sm F F') : ∀ {v : List V} {d : List D}, Reps K F v d → Reps K F' v d
  | _, _, .nil => .nil
  | _, _, .cons a b => .cons (Rep.mono h a) (Reps.mono h b)
theorem KReps.mono (h : Sm F F') : ∀ {v : List (Key × V)} {d : List (Key × D)}, KReps K F v d → KReps K F' v d
  | _, _, .nil => .nil
  | _, _, .cons a b => .cons (Rep.mono h a) (KReps.mono h b)
theorem TReps.mono (h : Sm F F') : ∀ {v : List (List Key × V)} {d : List (List Key × D)}, TReps K F v d → TReps K F' v d
  | _, _, .nil => .nil
  | _, _, .cons a b => .cons (Rep.mono h a) (TReps.mono h b)
end
theorem Reps.length : ∀ {vs : List V} {ds : List D}, Reps K F vs ds → vs.length = ds.length
  | _, _, .nil => rfl
  | _, _, .cons _ b => congrArg (· + 1) (Reps.length b)
theorem Reps.get : ∀ {vs : List V} {ds : List D} {i : Nat} {d : D}, Reps K F vs ds → ds[i]? = some d → ∃ v, vs[i]? = some v ∧ Rep K F v d
  | _, _, _, _, .nil, e => by simp at e
  | _, _, 0, _, .cons a _, e => by simp at e; subst e; exact ⟨_, rfl, a⟩
  | _, _, i + 1, _, .cons _ b, e => by
    obtain ⟨v, h1, h2⟩ := Reps.get (i := i) b (by simpa using e)
    exact ⟨v, by simpa using h1, h2⟩
theorem Reps.append : ∀ {vs ws : List V} {ds es : List D}, Reps K F vs ds → Reps K F ws es → Reps K F (vs ++ ws) (ds ++ es)
  | _, _, _, _, .nil, h => h
  | _, _, _, _, .cons a b, h => .cons a (Reps.append b h)
theorem Reps.take : ∀ {vs : List V} {ds : List D} (n : Nat), Reps K F vs ds → Reps K F (vs.take n) (ds.take n)
  | _, _, 0, _ => .nil
  | _, _, _ + 1, .nil => .nil
  | _, _, n + 1, .cons a b => .cons a (Reps.take n b)
theorem Reps.drop : ∀ {vs : List V} {ds : List D} (n : Nat), Reps K F vs ds → Reps K F (vs.drop n) (ds.drop n)
  | _, _, 0, r => r
  | _, _, _ + 1, .nil => .nil
  | _, _, n + 1, .cons _ b => Reps.drop n b
theorem Reps.set {v : V} {d : D} (r : Rep K F v d) : ∀ {vs : List V} {ds : List D} (i : Nat), Reps K F vs ds → Reps K F (vs.set i v) (ds.set i d)
  | _, _, _, .nil => .nil
  | _, _, 0, .cons _ b => .cons r b
  | _, _, i + 1, .cons a b => .cons a (Reps.set r i b)
theorem Reps.rev : ∀ {vs : List V} {ds : List D}, Reps K F vs ds → Reps K F vs.reverse ds.reverse
  | _, _, .nil => .nil
  | _, _, .cons a b => by
    rw [List.reverse_cons, List.reverse_cons]
    exact (Reps.rev b).append (.cons a .nil)
theorem Reps.ints : ∀ {vs : List V} {ns : List Int}, Reps K F vs (ns.map D.int) → vs = ns.map V.int
  | _, [], .nil => rfl
  | _, n :: ns, .cons a b => by
    cases a
    rw [List.map_cons, Reps.ints b]
theorem Reps.of_ints : ∀ (ns : List Int), Reps K F (ns.map V.int) (ns.map D.int)
  | [] => .nil
  | n :: ns => .cons .int (Reps.of_ints ns)
theorem Reps.bls : ∀ {vs : List V} {ns : List Bool}, Reps K F vs (ns.map D.bl) → vs = ns.map V.bl
  | _, [], .nil => rfl
  | _, n :: ns, .cons a b => by
    cases a
    rw [List.map_cons, Reps.bls b]
end

/-! ### cells -/
def CellOk (K : PySem.W.Frag) (H F : Hp) (a : Addr) : O → Prop
  | .lst ds => F a = none ∧ ds.length ≤ sizeLine ∧ ∃ vs, H a = some (.lst vs) ∧ Reps K F vs ds
  | .dic ds => F a = none ∧ ∃ vs, H a = some (.dK vs) ∧ KReps K F vs ds
  | .dicT ds => F a = none ∧ ∃ vs, H a = some (.dT vs) ∧ TReps K F vs ds
  | .frz x => Rep K F (.ref a) x
/-- the cells' addresses; what else stands and is to stand (lists in the making) -/
structure Cs where
  c : List Addr
  g : List (Addr × HO)
structure HeapOk (K : PySem.W.Frag) (H F : Hp) (as : Cs) (m : Store) : Prop where
  sub : FSub F H
  len : as.c.length = m.length
  nd : as.c.Nodup
  there : ∀ a ∈ as.c, H a ≠ none
  cell : ∀ (c : Nat) (a : Addr) (o : O), as.c[c]? = some a → m[c]? = some o → CellOk K H F a o
  prot : ∀ p ∈ as.g, H p.1 = some p.2 ∧ F p.1 = none ∧ p.1 ∉ as.c
  pnd : (as.g.map (·.1)).Nodup
/-- a value of the frame -/
inductive RepE (K : PySem.W.Frag) (F : Hp) (as : Cs) : V → E → Prop
  | d {v : V} {x : D} : Rep K F v x → RepE K F as v (.d x)
  | own {a : Addr} {c : Nat} : as.c[c]? = some a → RepE K F as (.ref a) (.own c)
  | deal {a r ca : Addr} {row : List Int} {c : Nat} {t : Int} : F a = some (.lst [.ref r, .ref ca, .int t]) → F r = some (.lst (row.map V.int)) → row.length ≤ sizeLine → as.c[c]? = some ca → RepE K F as (.ref a) (.deal row c t)
inductive RepEs (K : PySem.W.Frag) (F : Hp) (as : Cs) : List V → List E → Prop
  | nil : RepEs K F as [] []
  | cons {v : V} {e : E} {vs : List V} {es : List E} : RepE K F as v e → RepEs K F as vs es → RepEs K F as (v :: vs) (e :: es)
structure EnvOk (K : PySem.W.Frag) (F : Hp) (as : Cs) (σ : L2.St) (ρ : Rho) : Prop where
  len : σ.length = ρ.length
  get : ∀ (i : Nat) (e : E), ρ[i]? = some (some e) → ∃ v, σ[i]? = some (some v) ∧ RepE K F as v e
def Ext (F F' : Hp) (as as' : Cs) : Prop := Sm F F' ∧ as.c <+: as'.c ∧ as'.g = as.g

section
variable {K : PySem.W.Frag} {F F' F2 H H' H2 : Hp} {as as' as2 : Cs} {m m' : Store} {v : V} {e : E} {σ : L2.St} {ρ : Rho}
theorem Ext.refl : Ext F F as as := ⟨Sm.refl F, List.prefix_refl _, rfl⟩
theorem Ext.trans (a : Ext F F' as as') (b : Ext F' F2 as' as2) : Ext F F2 as as2 := ⟨a.1.trans b.1, a.2.1.trans b.2.1, b.2.2.trans a.2.2⟩
theorem pre_get {α : Type} {l l' : List α} {i : Nat} {x : α} (h : l <+: l') (e : l[i]? = some x) : l'[i]? = some x := by
  obtain ⟨t, rfl⟩ := h
  rw [List.getElem?_append_left (List.getElem?_eq_some_iff.mp e).1]
  exact e
theorem RepE.ext (h : Ext F F' as as') : RepE K F as v e → RepE K F' as' v e
  | .d r => .d (r.mono h.1)
  | .own r => .own (pre_get h.2.1 r)
  | .deal a b z c => .deal (h.1.ex rfl a) (h.1.ex rfl b) z (pre_get h.2.1 c)
theorem RepEs.ext (h : Ext F F' as as') : ∀ {vs : List V} {es : List E}, RepEs K F as vs es → RepEs K F' as' vs es
  | _, _, .nil => .nil
  | _, _, .cons a b => .cons (a.ext h) (b.ext h)
theorem EnvOk.ext (h : Ext F F' as as') (x : EnvOk K F as σ ρ) : EnvOk K F' as' σ ρ := ⟨x.len, fun i e q => let ⟨v, a, b⟩ := x.get i e q; ⟨v, a, b.ext h⟩⟩
theorem EnvOk.set (x : EnvOk K F as σ ρ) (i : Nat) (r : RepE K F as v e) : EnvOk K F as (σ.set i (some v)) (ρ.set i (some e)) := by
  refine ⟨by rw [List.length_set, List.length_set]; exact x.len, fun j e' q => ?_⟩
  by_cases hj : i = j
  · subst hj
    by_cases hl : i < ρ.length
    · rw [List.getElem?_set_self hl] at q
      cases q
      exact ⟨v, by rw [List.getElem?_set_self (by rw [x.len]; exact hl)], r⟩
    · rw [List.getElem?_eq_none (by rw [List.length_set]; omega)] at q
      cases q
  · rw [List.getElem?_set_ne hj] at q
    obtain ⟨w, a, b⟩ := x.get j e' q
    exact ⟨w, by rw [List.getElem?_set_ne hj]; exact a, b⟩
def wipeE (ρ : Rho) : List Nat → Rho
  | [] => ρ
  | v :: vs => (wipeE ρ vs).set v none
theorem EnvOk.wipe (x : EnvOk K F as σ ρ) : ∀ vs : List Nat, EnvOk K F as (wipe σ vs) (wipeE ρ vs)
  | [] => x
  | i :: vs => by
    have y := EnvOk.wipe x vs
    refine ⟨by show (List.set _ _ _).length = (List.set _ _ _).length; rw [List.length_set, List.length_set]; exact y.len, fun j e' q => ?_⟩
    have q : ((wipeE ρ vs).set i none)[j]? = some (some e') := q
    by_cases hj : i = j
    · subst hj
      by_cases hl : i < (wipeE ρ vs).length
      · rw [List.getElem?_set_self hl] at q
        cases q
      · rw [List.getElem?_eq_none (by rw [List.length_set]; omega)] at q
        cases q
    · rw [List.getElem?_set_ne hj] at q
      obtain ⟨w, a, b⟩ := y.get j e' q
      exact ⟨w, by show ((L2.wipe σ vs).set i none)[j]? = _; rw [List.getElem?_set_ne hj]; exact a, b⟩

/-- new objects may have come, what stood stands -/
structure Grow (H F H' F' : Hp) : Prop where
  old : ∀ a, H a ≠ none → H' a = H a ∧ F' a = F a
  sub : FSub F' H'
theorem Grow.refl (s : FSub F H) : Grow H F H F := ⟨fun _ _ => ⟨rfl, rfl⟩, s⟩
theorem Grow.trans {H1 F1 : Hp} (a : Grow H F H' F') (b : Grow H' F' H1 F1) : Grow H F H1 F1 := ⟨fun x q => by
  obtain ⟨a1, a2⟩ := a.old x q
  obtain ⟨b1, b2⟩ := b.old x (by rw [a1]; exact q)
  exact ⟨b1.trans a1, b2.trans a2⟩, b.sub⟩
theorem FSub.there (s : FSub F H) {a : Addr} {o : HO} (h : F a = some o) : H a ≠ none := by
  rcases s a o h with q | ⟨_, od, q⟩ <;> rw [q] <;> simp
theorem FSub.free (s : FSub F H) {a : Addr} (h : H a = none) : F a = none := by
  cases q : F a with
  | none => rfl
  | some o => exact absurd h (s.there q)
theorem Grow.same (s : FSub F H) (g : Grow H F H' F') : Sm F F' := fun a o h => .inl (by rw [(g.old a (s.there h)).2]; exact h)
theorem Grow.laid {p : Addr} {o : HO} (s : FSub F H) (h : H p = none) : Grow H F (upd H p o) (upd F p o) := by
  refine ⟨fun a q => ?_, fun a u q => ?_⟩
  · have n : a ≠ p := fun z => q (by rw [z]; exact h)
    exact ⟨upd_ne n, upd_ne n⟩
  · by_cases n : a = p
    · subst n
      rw [upd_same] at q ⊢
      exact .inl q
    · rw [upd_ne n] at q ⊢
      exact s a u q
theorem HeapOk.grow (x : HeapOk K H F as m) (g : Grow H F H' F') : HeapOk K H' F' as m := by
  have sm := g.same x.sub
  refine ⟨g.sub, x.len, x.nd, fun a q => by rw [(g.old a (x.there a q)).1]; exact x.there a q, fun c a o q1 q2 => ?_, fun p hp => ?_, x.pnd⟩
  case refine_2 =>
    obtain ⟨p1, p2, p3⟩ := x.prot p hp
    obtain ⟨e1, e2⟩ := g.old p.1 (by rw [p1]; simp)
    exact ⟨e1.trans p1, e2.trans p2, p3⟩
  have ha := x.there a (List.mem_of_getElem? q1)
  obtain ⟨e1, e2⟩ := g.old a ha
  have y := x.cell c a o q1 q2
  cases o with
  | lst ds => obtain ⟨y1, z, vs, y2, y3⟩ := y; exact ⟨e2.trans y1, z, vs, e1.trans y2, y3.mono sm⟩
  | dic ds => obtain ⟨y1, vs, y2, y3⟩ := y; exact ⟨e2.trans y1, vs, e1.trans y2, y3.mono sm⟩
  | dicT ds => obtain ⟨y1, vs, y2, y3⟩ := y; exact ⟨e2.trans y1, vs, e1.trans y2, y3.mono sm⟩
  | frz d => exact Rep.mono sm y
theorem HeapOk.ext (x : HeapOk K H F as m) (g : Grow H F H' F') : Ext F F' as as := ⟨g.same x.sub, List.prefix_refl _, rfl⟩
end
end PL
/-! PL2: expressions. -/
namespace PL
open PySem PySem.Spec L2
set_option autoImplicit false

abbrev Ex := Rho → Store → Option (E × Store)
abbrev Tx := Rho → Store → Option (Bool × Store)
abbrev Ax := Rho → Store → Option (List E × Store)

def tE (K : PySem.W.Frag) (f : Ex) : TE := fun σ H Q => ∃ ρ m F as e m', EnvOk K F as σ ρ ∧ HeapOk K H F as m ∧ f ρ m = some (e, m') ∧
  ∀ v H' F' as', Ext F F' as as' → HeapOk K H' F' as' m' → RepE K F' as' v e → Q v H'
def tT (K : PySem.W.Frag) (f : Tx) : TT := fun σ H Q => ∃ ρ m F as b m', EnvOk K F as σ ρ ∧ HeapOk K H F as m ∧ f ρ m = some (b, m') ∧
  ∀ H' F' as', Ext F F' as as' → HeapOk K H' F' as' m' → Q b H'
def tA (K : PySem.W.Frag) (f : Ax) : TA := fun σ H Q => ∃ ρ m F as es m', EnvOk K F as σ ρ ∧ HeapOk K H F as m ∧ f ρ m = some (es, m') ∧
  ∀ vs H' F' as', Ext F F' as as' → HeapOk K H' F' as' m' → RepEs K F' as' vs es → Q vs H'

section
variable {X : Cx} {e : Expr} {es : List Expr} {te te' : TE} {tt tt' : TT} {ta ta' : TA} {op : CmpOp} {a b : Expr}
theorem PE_imp (h : PE X e te) (i : ∀ σ H Q, te' σ H Q → te σ H Q) : PE X e te' := ⟨fun pins s σ H Q I q => h.run pins s σ H Q I (i σ H Q q)⟩
theorem PT_imp (h : PT X e tt) (i : ∀ σ H Q, tt' σ H Q → tt σ H Q) : PT X e tt' := ⟨fun pins s σ H Q I q => h.run pins s σ H Q I (i σ H Q q)⟩
theorem PW_imp (h : PW X e tt) (i : ∀ σ H Q, tt' σ H Q → tt σ H Q) : PW X e tt' := ⟨fun w pins s σ H Q I q => h.run w pins s σ H Q I (i σ H Q q)⟩
theorem PA_imp (h : PA X es ta) (i : ∀ σ H Q, ta' σ H Q → ta σ H Q) : PA X es ta' := ⟨fun p pins s σ H Q I q => h.run p pins s σ H Q I (i σ H Q q)⟩
end

/-! ### what is known of a value's data -/
def look (m : Store) : E → Option D
  | .d x => some x
  | .own c => match m[c]? with
    | some (.lst xs) => some (.lst xs)
    | some (.dic k) => some (.dic k)
    | some (.dicT k) => some (.dicT k)
    | some (.frz x) => some x
    | none => none
  | .deal _ _ _ => none
inductive RepL (K : PySem.W.Frag) (H F : Hp) : V → D → Prop
  | of {v : V} {d : D} : Rep K F v d → RepL K H F v d
  | lst {a : Addr} {vs : List V} {ds : List D} : H a = some (.lst vs) → vs.length ≤ sizeLine → Reps K F vs ds → RepL K H F (.ref a) (.lst ds)
  | dic {a : Addr} {vs : List (Key × V)} {ds : List (Key × D)} : H a = some (.dK vs) → KReps K F vs ds → RepL K H F (.ref a) (.dic ds)
  | dicT {a : Addr} {vs : List (List Key × V)} {ds : List (List Key × D)} : H a = some (.dT vs) → TReps K F vs ds → RepL K H F (.ref a) (.dicT ds)
section
variable {K : PySem.W.Frag} {F F' H H' : Hp} {as as' : Cs} {m m' : Store} {v : V} {e : E}
theorem look_rep {d : D} (x : HeapOk K H F as m) (r : RepE K F as v e) (l : look m e = some d) : RepL K H F v d := by
  cases r with
  | d r => cases l; exact .of r
  | @own a c r =>
    unfold look at l
    cases q : m[c]? with
    | none => simp only [q] at l; cases l
    | some o =>
      have y := x.cell c a o r q
      simp only [q] at l
      cases o with
      | lst ds =>
        cases l
        obtain ⟨_, z, vs, y2, y3⟩ := y
        exact .lst y2 (by rw [y3.length]; exact z) y3
      | dic ds => cases l; obtain ⟨_, vs, y2, y3⟩ := y; exact .dic y2 y3
      | dicT ds => cases l; obtain ⟨_, vs, y2, y3⟩ := y; exact .dicT y2 y3
      | frz d => cases l; exact .of y
  | deal => cases l
theorem RepL.int {i : Int} (r : RepL K H F v (.int i)) : v = .int i := by cases r with | of r => cases r; rfl
theorem RepL.bl {i : Bool} (r : RepL K H F v (.bl i)) : v = .bl i := by cases r with | of r => cases r; rfl
theorem RepL.str {i : Str} (r : RepL K H F v (.str i)) : v = .str i := by cases r with | of r => cases r; rfl
theorem RepL.non (r : RepL K H F v .non) : v = .non := by cases r with | of r => cases r; rfl
theorem RepL.tup {ds : List D} (s : FSub F H) (r : RepL K H F v (.tup ds)) : ∃ a vs, v = .ref a ∧ F a = some (.tup vs) ∧ H a = some (.tup vs) ∧ vs.length ≤ sizeLine ∧ Reps K F vs ds := by
  cases r with
  | of r =>
    cases r with
    | @tup a vs _ h1 h2 h3 =>
      refine ⟨a, vs, rfl, h1, ?_, h2, h3⟩
      rcases s _ _ h1 with q | ⟨q, _⟩
      · exact q
      · cases q
theorem RepL.list {ds : List D} (s : FSub F H) (r : RepL K H F v (.lst ds)) : ∃ a vs, v = .ref a ∧ H a = some (.lst vs) ∧ vs.length ≤ sizeLine ∧ Reps K F vs ds := by
  cases r with
  | of r =>
    cases r with
    | @lst a vs _ h1 h2 h3 =>
      refine ⟨a, vs, rfl, ?_, h2, h3⟩
      rcases s _ _ h1 with q | ⟨q, _⟩
      · exact q
      · cases q
  | @lst a vs _ h1 h2 h3 => exact ⟨a, vs, rfl, h1, h2, h3⟩
theorem RepL.dict {ds : List (Key × D)} (s : FSub F H) (r : RepL K H F v (.dic ds)) : ∃ a vs, v = .ref a ∧ Rd H a (.dK vs) ∧ KReps K F vs ds := by
  cases r with
  | of r =>
    cases r with
    | @dic a vs _ h1 h2 =>
      refine ⟨a, vs, rfl, ?_, h2⟩
      rcases s _ _ h1 with q | ⟨_, od, q⟩
      · exact .inl q
      · exact .inr ⟨od, q⟩
    | @dicF a od vs _ h1 h2 =>
      refine ⟨a, vs, rfl, ?_, h2⟩
      rcases s _ _ h1 with q | ⟨q, _⟩
      · exact .inr ⟨od, q⟩
      · cases q
  | @dic a vs _ h1 h2 => exact ⟨a, vs, rfl, .inl h1, h2⟩
theorem RepL.dictT {ds : List (List Key × D)} (s : FSub F H) (r : RepL K H F v (.dicT ds)) : ∃ a vs, v = .ref a ∧ Rd H a (.dT vs) ∧ TReps K F vs ds := by
  cases r with
  | of r =>
    cases r with
    | @dicT a vs _ h1 h2 =>
      refine ⟨a, vs, rfl, ?_, h2⟩
      rcases s _ _ h1 with q | ⟨_, od, q⟩
      · exact .inl q
      · exact .inr ⟨od, q⟩
    | @dicTF a od vs _ h1 h2 =>
      refine ⟨a, vs, rfl, ?_, h2⟩
      rcases s _ _ h1 with q | ⟨q, _⟩
      · exact .inr ⟨od, q⟩
      · cases q
  | @dicT a vs _ h1 h2 => exact ⟨a, vs, rfl, .inl h1, h2⟩
theorem FSub.sqL (s : FSub F H) {a : Addr} {vs : List V} (r : SqL K F a vs) : SqL K H a vs := by
  rcases r with (r | ⟨o, r⟩) | r
  · rcases s _ _ r with q | ⟨q, _⟩
    · exact .inl (.inl q)
    · cases q
  · rcases s _ _ r with q | ⟨q, _⟩
    · exact .inl (.inr ⟨o, q⟩)
    · cases q
  · exact .inr r
theorem RepL.scr {ns : List Int} (s : FSub F H) (r : RepL K H F v (.scr ns)) : ∃ a, v = .ref a ∧ SqL K H a (ns.map V.int) := by
  cases r with
  | of r =>
    cases r with
    | @scr a _ h1 h2 => exact ⟨a, rfl, s.sqL h1⟩
end

/-! ### names, constants -/
def eV (i : Nat) : Ex := fun ρ m => match ρ[i]? with
  | some (some e) => some (e, m)
  | _ => none
def eC (d : D) : Ex := fun _ m => some (.d d, m)
section
variable {X : Cx} {pos : Pos}
theorem r_var {i : Nat} {e : Expr} (h : PE X e (tVar i)) : PE X e (tE X.K (eV i)) := by
  refine PE_imp h fun σ H Q h => ?_
  obtain ⟨ρ, m, F, as, e, m', env, hp, hf, q⟩ := h
  unfold eV at hf
  cases w : ρ[i]? with
  | none => simp only [w] at hf; cases hf
  | some o =>
    cases o with
    | none => simp only [w] at hf; cases hf
    | some e' =>
      simp only [w] at hf
      cases hf
      obtain ⟨v, e1, r⟩ := env.get i e w
      exact ⟨v, e1, q v H F as Ext.refl hp r⟩
theorem r_const {e : Expr} {v : V} {d : D} (h : PE X e (tC v)) (r : ∀ F : Hp, Rep X.K F v d) : PE X e (tE X.K (eC d)) := by
  refine PE_imp h fun σ H Q h => ?_
  obtain ⟨ρ, m, F, as, e, m', env, hp, hf, q⟩ := h
  cases hf
  exact q v H F as Ext.refl hp (.d (r F))
theorem r_int {i : Int} {j : Nat} : PE X (.Constant (.int i) j pos) (tE X.K (eC (.int i))) := r_const pe_int fun _ => .int
theorem r_bl {i : Bool} {j : Nat} : PE X (.Constant (.bool i) j pos) (tE X.K (eC (.bl i))) := r_const pe_bl fun _ => .bl
theorem r_non {j : Nat} : PE X (.Constant .none j pos) (tE X.K (eC .non)) := r_const pe_non fun _ => .non
theorem r_str {x : Str} {j : Nat} : PE X (.Constant (.str x) j pos) (tE X.K (eC (.str x))) := r_const pe_str fun _ => .str
end

/-! ### two values -/
abbrev G2 := E → E → Store → Option (E × Store)
def eBin (g : G2) (fa fb : Ex) : Ex := fun ρ m => (fa ρ m).bind fun p => (fb ρ p.2).bind fun q => g p.1 q.1 q.2
def R2Ok (K : PySem.W.Frag) (r : R2) (g : G2) : Prop := ∀ x y H F as m ex ey e m' Q, HeapOk K H F as m → RepE K F as x ex → RepE K F as y ey → g ex ey m = some (e, m') →
  (∀ v H' F' as', Ext F F' as as' → HeapOk K H' F' as' m' → RepE K F' as' v e → Q v H') → r x y H Q
theorem bind2 {α β : Type} {x : Option α} {f : α → Option β} {b : β} (h : x.bind f = some b) : ∃ a, x = some a ∧ f a = some b := Option.bind_eq_some_iff.mp h
section
variable {X : Cx} {pos : Pos} {a b : Expr} {fa fb : Ex} {r : R2} {g : G2}
theorem op_read (hg : R2Ok X.K r g) : ∀ σ H Q, tE X.K (eBin g fa fb) σ H Q → tOp r (tE X.K fa) (tE X.K fb) σ H Q := by
  intro σ H Q h
  obtain ⟨ρ, m, F, as, e, m', env, hp, hf, q⟩ := h
  obtain ⟨⟨ex, m1⟩, h1, hf⟩ := bind2 hf
  obtain ⟨⟨ey, m2⟩, h2, hf⟩ := bind2 hf
  refine ⟨ρ, m, F, as, ex, m1, env, hp, h1, fun v1 H1 F1 as1 x1 hp1 r1 => ?_⟩
  refine ⟨ρ, m1, F1, as1, ey, m2, env.ext x1, hp1, h2, fun v2 H2 F2 as2 x2 hp2 r2 => ?_⟩
  exact hg v1 v2 H2 F2 as2 m2 ex ey e m' Q hp2 (r1.ext x2) r2 hf fun v H' F' as' x3 hp3 r3 => q v H' F' as' (x1.trans (x2.trans x3)) hp3 r3
theorem r_op {op : Operator} (ho : OpR X (binaryOp op) r) (hg : R2Ok X.K r g) (ha : PE X a (tE X.K fa)) (hb : PE X b (tE X.K fb)) : PE X (.BinOp a op b pos) (tE X.K (eBin g fa fb)) :=
  PE_imp (pe_op ho ha hb) (op_read hg)
theorem r_cmp {op : CmpOp} (ho : OpR X (compareOp op) r) (hg : R2Ok X.K r g) (ha : PE X a (tE X.K fa)) (hb : PE X b (tE X.K fb)) (hm : behindInMarks op b = false) : PE X (.Compare a [op] [b] pos) (tE X.K (eBin g fa fb)) :=
  PE_imp (pe_cmpR ho ha hb hm) (op_read hg)
theorem r_ix (hr : IxR X r) (hg : R2Ok X.K r g) (ha : PE X a (tE X.K fa)) (hb : PE X b (tE X.K fb)) (hs : PlainIx b) : PE X (.Subscript a b pos) (tE X.K (eBin g fa fb)) :=
  PE_imp (pe_ix hr ha hb hs) (op_read hg)
/-- a test by an expression that gives a bool -/
def tOf (f : Ex) : Tx := fun ρ m => match f ρ m with
  | some (.d (.bl b), m') => some (b, m')
  | _ => none
theorem test_read {f : Ex} {t : TE} (i : ∀ σ H Q, tE X.K f σ H Q → t σ H Q) : ∀ σ H Q, tT X.K (tOf f) σ H Q → tTest t σ H Q := by
  intro σ H Q h
  obtain ⟨ρ, m, F, as, c, m', env, hp, hf, q⟩ := h
  unfold tOf at hf
  split at hf
  · rename_i b m2 e
    cases hf
    refine i _ _ _ ⟨ρ, m, F, as, _, _, env, hp, e, fun v H' F' as' x hp' r => ?_⟩
    cases r with
    | d r => cases r; exact ⟨c, rfl, q H' F' as' x hp'⟩
  · cases hf
theorem r_cmpT {op : CmpOp} (ho : OpR X (compareOp op) r) (hg : R2Ok X.K r g) (ha : PE X a (tE X.K fa)) (hb : PE X b (tE X.K fb)) (hm : behindInMarks op b = false) : PT X (.Compare a [op] [b] pos) (tT X.K (tOf (eBin g fa fb))) :=
  PT_imp (pt_cmpR ho ha hb hm) (test_read (op_read hg))
theorem r_val {e : Expr} {f : Ex} (h : PE X e (tE X.K f)) (he : ∀ whole, isTrue e X.env whole = (do let v ← whole; standAt e.pos; holding [v] (truthy v)) := by intro _; rfl) : PT X e (tT X.K (tOf f)) :=
  PT_imp (pt_val h he) (test_read fun _ _ _ h => h)
end

/-! ### operators on data -/
def D2Ok (K : PySem.W.Frag) (r : R2) (op : D → D → Option D) : Prop := ∀ x y H F dx dy d Q, FSub F H → RepL K H F x dx → RepL K H F y dy → op dx dy = some d →
  (∀ v H' F', Grow H F H' F' → Rep K F' v d → Q v H') → r x y H Q
def g2 (op : D → D → Option D) : G2 := fun x y m => (look m x).bind fun dx => (look m y).bind fun dy => (op dx dy).bind fun d => some (.d d, m)
theorem D2Ok.r2 {K : PySem.W.Frag} {r : R2} {op : D → D → Option D} (h : D2Ok K r op) : R2Ok K r (g2 op) := by
  intro x y H F as m ex ey e m' Q hp rx ry hf q
  obtain ⟨dx, h1, hf⟩ := bind2 hf
  obtain ⟨dy, h2, hf⟩ := bind2 hf
  obtain ⟨d, h3, hf⟩ := bind2 hf
  cases hf
  exact h x y H F dx dy d Q hp.sub (look_rep hp rx h1) (look_rep hp ry h2) h3 fun v H' F' g r => q v H' F' as (hp.ext g) (hp.grow g) (.d r)
def big : Nat := 1000000
/-- truth, not to be computed -/
noncomputable def okP (p : Prop) : Bool := @decide p (Classical.propDecidable p)
theorem okP_true {p : Prop} (h : p) : okP p = true := by unfold okP; exact @decide_eq_true p (Classical.propDecidable p) h
theorem of_okP {p : Prop} (h : okP p = true) : p := by unfold okP at h; exact @of_decide_eq_true p (Classical.propDecidable p) h
theorem big_le {n : Nat} (h : n ≤ big) : n ≤ sizeLine := Nat.le_trans h (by rw [sizeLine_eq]; decide)
theorem big_lt {n : Nat} (h : n < big) : n < sizeLine := Nat.lt_of_lt_of_le h (by rw [sizeLine_eq]; decide)

def opAdd : D → D → Option D
  | .int i, .int j => some (.int (i + j))
  | .str x, .str y => if x.length + y.length ≤ big then some (.str (x ++ y)) else none
  | .tup xs, .tup ys => if xs.length + ys.length ≤ big then some (.tup (xs ++ ys)) else none
  | .lst xs, .lst ys => if xs.length + ys.length ≤ big then some (.lst (xs ++ ys)) else none
  | _, _ => none
def rAddA (K : PySem.W.Frag) : R2 := fun x y H Q => (rI0 fun i j => .int (i + j)) x y H Q ∨ (fun x y H Q => ∃ i j, x = .str i ∧ y = .str j ∧ i.length + j.length ≤ sizeLine ∧ Q (.str (i ++ j)) H : R2) x y H Q ∨ rCatA K x y H Q ∨ rCat x y H Q
section
variable {X : Cx}
theorem op_addA : OpR X (binaryOp .Add) (rAddA X.K) := OpR.or op_add (OpR.or op_add_str (OpR.or op_catA op_cat))
theorem d_add {K : PySem.W.Frag} : D2Ok K (rAddA K) opAdd := by
  intro x y H F dx dy d Q s rx ry hd q
  unfold opAdd at hd
  split at hd
  · cases hd
    exact .inl ⟨_, _, rx.int, ry.int, q _ H F (.refl s) .int⟩
  · split at hd
    · rename_i z
      cases hd
      exact .inr (.inl ⟨_, _, rx.str, ry.str, big_le z, q _ H F (.refl s) .str⟩)
    · cases hd
  · split at hd
    · rename_i z
      cases hd
      obtain ⟨a, vs, rfl, f1, h1, z1, r1⟩ := rx.tup s
      obtain ⟨b, ws, rfl, f2, h2, z2, r2⟩ := ry.tup s
      have zz : vs.length + ws.length ≤ sizeLine := by rw [r1.length, r2.length]; exact big_le z
      refine .inr (.inr (.inl ⟨a, b, vs, ws, rfl, rfl, .of h1, .of h2, zz, fun e => ?_, fun _ e => ?_, fun _ _ p hp => ?_⟩))
      · subst e
        refine q _ H F (.refl s) (.tup f2 z2 ?_)
        cases r1
        exact r2
      · subst e
        refine q _ H F (.refl s) (.tup f1 z1 ?_)
        cases r2
        rw [List.append_nil]
        exact r1
      · have g := Grow.laid (o := .tup (vs ++ ws)) s hp
        exact q _ _ _ g (.tup upd_same (by rw [List.length_append]; exact zz) ((r1.append r2).mono (g.same s)))
    · cases hd
  · split at hd
    · rename_i z
      cases hd
      obtain ⟨a, vs, rfl, h1, z1, r1⟩ := rx.list s
      obtain ⟨b, ws, rfl, h2, z2, r2⟩ := ry.list s
      have zz : vs.length + ws.length ≤ sizeLine := by rw [r1.length, r2.length]; exact big_le z
      refine .inr (.inr (.inr ⟨a, b, vs, ws, rfl, rfl, h1, h2, zz, fun p hp => ?_⟩))
      have g := Grow.laid (o := .lst (vs ++ ws)) s hp
      exact q _ _ _ g (.lst upd_same (by rw [List.length_append]; exact zz) ((r1.append r2).mono (g.same s)))
    · cases hd
  · cases hd
end
/-- ints alone -/
def opI (f : Int → Int → Option D) : D → D → Option D
  | .int i, .int j => f i j
  | _, _ => none
theorem d_int {K : PySem.W.Frag} {C : Int → Int → Prop} {g : Int → Int → V} {f : Int → Int → Option D} (h : ∀ i j d, f i j = some d → C i j ∧ ∀ F : Hp, Rep K F (g i j) d) : D2Ok K (rI C g) (opI f) := by
  intro x y H F dx dy d Q s rx ry hd q
  unfold opI at hd
  split at hd
  · obtain ⟨c, r⟩ := h _ _ _ hd
    exact ⟨_, _, rx.int, ry.int, c, q _ H F (.refl s) (r F)⟩
  · cases hd
theorem d_int0 {K : PySem.W.Frag} {g : Int → Int → V} {f : Int → Int → Option D} (h : ∀ i j d, f i j = some d → ∀ F : Hp, Rep K F (g i j) d) : D2Ok K (rI0 g) (opI f) := by
  intro x y H F dx dy d Q s rx ry hd q
  unfold opI at hd
  split at hd
  · exact ⟨_, _, rx.int, ry.int, q _ H F (.refl s) (h _ _ _ hd F)⟩
  · cases hd
abbrev opSub := opI fun i j => some (.int (i - j))
noncomputable abbrev opMul := opI fun i j => if okP ((-(2 ^ 64) < i ∧ i < 2 ^ 64) ∨ (-(2 ^ 64) < j ∧ j < 2 ^ 64)) = true then some (.int (i * j)) else none
abbrev opDiv := opI fun i j => if 0 < j ∧ j < 1073741824 then some (.int (i / j)) else none
abbrev opMod := opI fun i j => if 0 < j then some (.int (i % j)) else none
abbrev opLt := opI fun i j => some (.bl (decide (i < j)))
abbrev opLe := opI fun i j => some (.bl (decide (i ≤ j)))
abbrev opGt := opI fun i j => some (.bl (decide (j < i)))
abbrev opGe := opI fun i j => some (.bl (decide (j ≤ i)))
section
variable {K : PySem.W.Frag}
theorem d_sub : D2Ok K (rI0 fun i j => .int (i - j)) opSub := d_int0 fun i j d h F => by cases h; exact .int
theorem d_lt : D2Ok K (rI0 fun i j => .bl (decide (i < j))) opLt := d_int0 fun i j d h F => by cases h; exact .bl
theorem d_le : D2Ok K (rI0 fun i j => .bl (decide (i ≤ j))) opLe := d_int0 fun i j d h F => by cases h; exact .bl
theorem d_gt : D2Ok K (rI0 fun i j => .bl (decide (j < i))) opGt := d_int0 fun i j d h F => by cases h; exact .bl
theorem d_ge : D2Ok K (rI0 fun i j => .bl (decide (j ≤ i))) opGe := d_int0 fun i j d h F => by cases h; exact .bl
theorem d_mul : D2Ok K (rI CMul fun i j => .int (i * j)) opMul := d_int fun i j d h => by
  split at h
  · rename_i c
    have c := of_okP c; cases h; exact ⟨c, fun _ => .int⟩
  · cases h
theorem d_div : D2Ok K (rI CDiv fun i j => .int (i / j)) opDiv := d_int fun i j d h => by
  split at h
  · rename_i c; cases h; exact ⟨c, fun _ => .int⟩
  · cases h
theorem d_mod : D2Ok K (rI (fun _ j => 0 < j) fun i j => .int (i % j)) opMod := d_int fun i j d h => by
  split at h
  · rename_i c; cases h; exact ⟨c, fun _ => .int⟩
  · cases h
end
/-- == of scalars -/
def eqS : D → D → Option Bool
  | .int i, .int j => some (decide (i = j))
  | .bl i, .bl j => some (decide (i = j))
  | .str i, .str j => some (decide (i = j))
  | .non, .non => some true
  | .non, .int _ => some false
  | .int _, .non => some false
  | _, _ => none
def opEq (x y : D) : Option D := (eqS x y).map .bl
def opNe (x y : D) : Option D := (eqS x y).map fun b => .bl !b
theorem eqS_ok {K : PySem.W.Frag} {H F : Hp} {x y : V} {dx dy : D} {b : Bool} (rx : RepL K H F x dx) (ry : RepL K H F y dy) (h : eqS dx dy = some b) : scal x y = true ∧ decide (x = y) = b := by
  unfold eqS at h
  split at h <;> cases h
  · rw [rx.int, ry.int]; exact ⟨rfl, by simp⟩
  · rw [rx.bl, ry.bl]; exact ⟨rfl, by simp⟩
  · rw [rx.str, ry.str]; exact ⟨rfl, by simp⟩
  · rw [rx.non, ry.non]; exact ⟨rfl, by simp⟩
  · rw [rx.non, ry.int]; exact ⟨rfl, by simp⟩
  · rw [rx.int, ry.non]; exact ⟨rfl, by simp⟩
theorem d_eq {K : PySem.W.Frag} : D2Ok K rEq opEq := by
  intro x y H F dx dy d Q s rx ry hd q
  obtain ⟨b, h1, rfl⟩ := Option.map_eq_some_iff.mp hd
  obtain ⟨h2, h3⟩ := eqS_ok rx ry h1
  exact ⟨h2, by rw [h3]; exact q _ H F (.refl s) .bl⟩
theorem d_ne {K : PySem.W.Frag} : D2Ok K rNe opNe := by
  intro x y H F dx dy d Q s rx ry hd q
  obtain ⟨b, h1, rfl⟩ := Option.map_eq_some_iff.mp hd
  obtain ⟨h2, h3⟩ := eqS_ok rx ry h1
  exact ⟨h2, by rw [h3]; exact q _ H F (.refl s) .bl⟩

/-! ### places -/
def opIx : D → D → Option D
  | .lst xs, .int i => atI xs i
  | .tup xs, .int i => atI xs i
  | .scr ns, .int i => (atI ns i).map .int
  | _, _ => none
theorem atI_rep {K : PySem.W.Frag} {F : Hp} {vs : List V} {ds : List D} {i : Int} {d : D} (r : Reps K F vs ds) (h : atI ds i = some d) : ∃ v, atI vs i = some v ∧ Rep K F v d := by
  unfold atI at h ⊢
  rw [← r.length] at h
  obtain ⟨j, h1, h2⟩ := bind2 h
  obtain ⟨v, e1, e2⟩ := r.get h2
  exact ⟨v, by rw [h1]; exact e1, e2⟩
theorem atI_map {α β : Type} (f : α → β) (xs : List α) (i : Int) : atI (xs.map f) i = (atI xs i).map f := by
  unfold atI
  rw [List.length_map]
  cases ixN xs.length i with
  | none => rfl
  | some j => simp
theorem d_ix {K : PySem.W.Frag} : D2Ok K (rIx K) opIx := by
  intro x y H F dx dy d Q s rx ry hd q
  unfold opIx at hd
  split at hd
  · obtain ⟨a, vs, rfl, h1, z1, r1⟩ := rx.list s
    obtain ⟨v, e1, e2⟩ := atI_rep r1 hd
    exact .inl ⟨a, vs, _, v, rfl, ry.int, .of h1, e1, q _ H F (.refl s) e2⟩
  · obtain ⟨a, vs, rfl, f1, h1, z1, r1⟩ := rx.tup s
    obtain ⟨v, e1, e2⟩ := atI_rep r1 hd
    exact .inr (.inl ⟨a, vs, _, v, rfl, ry.int, .of h1, e1, q _ H F (.refl s) e2⟩)
  · obtain ⟨n, e1, rfl⟩ := Option.map_eq_some_iff.mp hd
    obtain ⟨a, rfl, h1⟩ := rx.scr s
    exact .inl ⟨a, _, _, .int n, rfl, ry.int, h1, by rw [atI_map, e1]; rfl, q _ H F (.refl s) .int⟩
  · cases hd
end PL
/-! PL3: tests, arguments, displays, statements, functions. -/
namespace PL
open PySem PySem.Spec L2
set_option autoImplicit false

/-! ### tests -/
def tAndM (f g : Tx) : Tx := fun ρ m => (f ρ m).bind fun p => if p.1 = true then g ρ p.2 else some (false, p.2)
def tOrM (f g : Tx) : Tx := fun ρ m => (f ρ m).bind fun p => if p.1 = true then some (true, p.2) else g ρ p.2
def tNotM (f : Tx) : Tx := fun ρ m => (f ρ m).bind fun p => some (!p.1, p.2)
def eIf (t : Tx) (f g : Ex) : Ex := fun ρ m => (t ρ m).bind fun p => if p.1 = true then f ρ p.2 else g ρ p.2
/-- and, or, not as values, of bools -/
def eAnd (f g : Ex) : Ex := fun ρ m => (tOf f ρ m).bind fun p => if p.1 = true then g ρ p.2 else some (.d (.bl false), p.2)
def eOr (f g : Ex) : Ex := fun ρ m => (tOf f ρ m).bind fun p => if p.1 = true then some (.d (.bl true), p.2) else g ρ p.2
def eNot (f : Ex) : Ex := fun ρ m => (tOf f ρ m).bind fun p => some (.d (.bl !p.1), p.2)
theorem tOf_some {f : Ex} {ρ : Rho} {m m' : Store} {b : Bool} (h : tOf f ρ m = some (b, m')) : f ρ m = some (.d (.bl b), m') := by
  unfold tOf at h
  split at h
  · rename_i e; cases h; exact e
  · cases h
section
variable {X : Cx} {pos : Pos} {a b c : Expr} {rest : List Expr} {f g : Tx} {fa fb : Ex}
theorem tstep {K : PySem.W.Frag} {σ : L2.St} {H : Hp} {ρ : Rho} {m m' : Store} {F : Hp} {as : Cs} {b : Bool} {f : Tx} {Q : Bool → Hp → Prop} (env : EnvOk K F as σ ρ) (hp : HeapOk K H F as m) (h : f ρ m = some (b, m'))
    (q : ∀ H' F' as', Ext F F' as as' → HeapOk K H' F' as' m' → EnvOk K F' as' σ ρ → Q b H') : tT K f σ H Q := ⟨ρ, m, F, as, b, m', env, hp, h, fun H' F' as' x hp' => q H' F' as' x hp' (env.ext x)⟩
theorem estep {K : PySem.W.Frag} {σ : L2.St} {H : Hp} {ρ : Rho} {m m' : Store} {F : Hp} {as : Cs} {e : E} {f : Ex} {Q : VK} (env : EnvOk K F as σ ρ) (hp : HeapOk K H F as m) (h : f ρ m = some (e, m'))
    (q : ∀ v H' F' as', Ext F F' as as' → HeapOk K H' F' as' m' → EnvOk K F' as' σ ρ → RepE K F' as' v e → Q v H') : tE K f σ H Q := ⟨ρ, m, F, as, e, m', env, hp, h, fun v H' F' as' x hp' r => q v H' F' as' x hp' (env.ext x) r⟩
theorem r_and1 (ha : PT X a (tT X.K f)) : PW X (.BoolOp .And [a] pos) (tT X.K f) := pw_and1 ha
theorem r_or1 (ha : PT X a (tT X.K f)) : PW X (.BoolOp .Or [a] pos) (tT X.K f) := pw_or1 ha
theorem r_and (ha : PT X a (tT X.K f)) (hb : PW X (.BoolOp .And (b :: rest) pos) (tT X.K g)) : PW X (.BoolOp .And (a :: b :: rest) pos) (tT X.K (tAndM f g)) := by
  refine PW_imp (pw_and ha hb) fun σ H Q h => ?_
  obtain ⟨ρ, m, F, as, r, m', env, hp, hf, q⟩ := h
  obtain ⟨⟨k, m1⟩, h1, hf⟩ := bind2 hf
  refine tstep env hp h1 fun H1 F1 as1 x1 hp1 env1 => ?_
  cases k with
  | true => exact tstep env1 hp1 hf fun H2 F2 as2 x2 hp2 _ => q H2 F2 as2 (x1.trans x2) hp2
  | false => cases hf; exact q H1 F1 as1 x1 hp1
theorem r_or (ha : PT X a (tT X.K f)) (hb : PW X (.BoolOp .Or (b :: rest) pos) (tT X.K g)) : PW X (.BoolOp .Or (a :: b :: rest) pos) (tT X.K (tOrM f g)) := by
  refine PW_imp (pw_or ha hb) fun σ H Q h => ?_
  obtain ⟨ρ, m, F, as, r, m', env, hp, hf, q⟩ := h
  obtain ⟨⟨k, m1⟩, h1, hf⟩ := bind2 hf
  refine tstep env hp h1 fun H1 F1 as1 x1 hp1 env1 => ?_
  cases k with
  | false => exact tstep env1 hp1 hf fun H2 F2 as2 x2 hp2 _ => q H2 F2 as2 (x1.trans x2) hp2
  | true => cases hf; exact q H1 F1 as1 x1 hp1
theorem r_not (ha : PT X a (tT X.K f)) : PT X (.UnaryOp .Not a pos) (tT X.K (tNotM f)) := by
  refine PT_imp (pt_not ha) fun σ H Q h => ?_
  obtain ⟨ρ, m, F, as, r, m', env, hp, hf, q⟩ := h
  obtain ⟨⟨k, m1⟩, h1, hf⟩ := bind2 hf
  cases hf
  exact tstep env hp h1 fun H1 F1 as1 x1 hp1 _ => q H1 F1 as1 x1 hp1
theorem r_if (hc : PT X c (tT X.K f)) (ha : PE X a (tE X.K fa)) (hb : PE X b (tE X.K fb)) : PE X (.IfExp c a b pos) (tE X.K (eIf f fa fb)) := by
  refine PE_imp (pe_ifExp hc ha hb) fun σ H Q h => ?_
  obtain ⟨ρ, m, F, as, r, m', env, hp, hf, q⟩ := h
  obtain ⟨⟨k, m1⟩, h1, hf⟩ := bind2 hf
  refine tstep env hp h1 fun H1 F1 as1 x1 hp1 env1 => ?_
  cases k with
  | true => exact estep env1 hp1 hf fun v H2 F2 as2 x2 hp2 _ r => q v H2 F2 as2 (x1.trans x2) hp2 r
  | false => exact estep env1 hp1 hf fun v H2 F2 as2 x2 hp2 _ r => q v H2 F2 as2 (x1.trans x2) hp2 r
theorem RepE_bl {K : PySem.W.Frag} {F : Hp} {as : Cs} {v : V} {b : Bool} (r : RepE K F as v (.d (.bl b))) : v = .bl b := by cases r with | d r => cases r; rfl
theorem r_eone {op} (h : PE X a (tE X.K fa)) : PE X (.BoolOp op [a] pos) (tE X.K fa) := pe_one h
theorem r_eand (ha : PE X a (tE X.K fa)) (hb : PE X (.BoolOp .And (b :: rest) pos) (tE X.K fb)) : PE X (.BoolOp .And (a :: b :: rest) pos) (tE X.K (eAnd fa fb)) := by
  refine PE_imp (pe_and ha hb) fun σ H Q h => ?_
  obtain ⟨ρ, m, F, as, r, m', env, hp, hf, q⟩ := h
  obtain ⟨⟨k, m1⟩, h1, hf⟩ := bind2 hf
  refine estep env hp (tOf_some h1) fun v H1 F1 as1 x1 hp1 env1 r1 => ⟨k, RepE_bl r1, ?_⟩
  cases k with
  | true => exact estep env1 hp1 hf fun v H2 F2 as2 x2 hp2 _ r => q v H2 F2 as2 (x1.trans x2) hp2 r
  | false => cases hf; exact q _ H1 F1 as1 x1 hp1 (.d .bl)
theorem r_eor (ha : PE X a (tE X.K fa)) (hb : PE X (.BoolOp .Or (b :: rest) pos) (tE X.K fb)) : PE X (.BoolOp .Or (a :: b :: rest) pos) (tE X.K (eOr fa fb)) := by
  refine PE_imp (pe_or ha hb) fun σ H Q h => ?_
  obtain ⟨ρ, m, F, as, r, m', env, hp, hf, q⟩ := h
  obtain ⟨⟨k, m1⟩, h1, hf⟩ := bind2 hf
  refine estep env hp (tOf_some h1) fun v H1 F1 as1 x1 hp1 env1 r1 => ⟨k, RepE_bl r1, ?_⟩
  cases k with
  | false => exact estep env1 hp1 hf fun v H2 F2 as2 x2 hp2 _ r => q v H2 F2 as2 (x1.trans x2) hp2 r
  | true => cases hf; exact q _ H1 F1 as1 x1 hp1 (.d .bl)
theorem r_enot (ha : PE X a (tE X.K fa)) : PE X (.UnaryOp .Not a pos) (tE X.K (eNot fa)) := by
  refine PE_imp (pe_not ha) fun σ H Q h => ?_
  obtain ⟨ρ, m, F, as, r, m', env, hp, hf, q⟩ := h
  obtain ⟨⟨k, m1⟩, h1, hf⟩ := bind2 hf
  cases hf
  exact estep env hp (tOf_some h1) fun v H1 F1 as1 x1 hp1 env1 r1 => ⟨k, RepE_bl r1, q _ H1 F1 as1 x1 hp1 (.d .bl)⟩
end

/-! ### freezing: a cell that is handed on into data is written no more -/
def frzE (m : Store) : E → Option (D × Store)
  | .d x => some (x, m)
  | .own c => (look m (.own c)).bind fun d => some (d, m.set c (.frz d))
  | .deal _ _ _ => none
section
variable {K : PySem.W.Frag} {F F' H H' : Hp} {as as' : Cs} {m m' : Store} {v : V} {e : E}
theorem HeapOk.upF {a : Addr} {c : Nat} {o : HO} {d : D} (x : HeapOk K H F as m) (ha : as.c[c]? = some a) (hF : F a = none) (hH : H a = some o) (r : Rep K (upd F a o) (.ref a) d) : Sm F (upd F a o) ∧ HeapOk K H (upd F a o) as (m.set c (.frz d)) := by
  have sm : Sm F (upd F a o) := fun b u q => by
    rw [upd_ne (fun z => by rw [z, hF] at q; cases q)]
    exact .inl q
  refine ⟨sm, ⟨fun b u q => ?_, by rw [List.length_set]; exact x.len, x.nd, x.there, fun c' b u q1 q2 => ?_, fun p hp => ?_, x.pnd⟩⟩
  case refine_3 =>
    obtain ⟨p1, p2, p3⟩ := x.prot p hp
    exact ⟨p1, by rw [upd_ne (fun z => p3 (by rw [z]; exact List.mem_of_getElem? ha))]; exact p2, p3⟩
  · by_cases hb : b = a
    · subst hb
      rw [upd_same] at q
      cases q
      exact .inl hH
    · rw [upd_ne hb] at q
      exact x.sub b u q
  · by_cases hc : c = c'
    · subst hc
      rw [ha] at q1
      cases q1
      have hl : c < m.length := by rw [← x.len]; exact (List.getElem?_eq_some_iff.mp ha).1
      rw [List.getElem?_set_self hl] at q2
      cases q2
      exact r
    · rw [List.getElem?_set_ne hc] at q2
      have nb : b ≠ a := fun z => by
        rw [z] at q1
        exact hc (nd_ix x.nd ha q1)
      have y := x.cell c' b u q1 q2
      cases u with
      | lst ds => obtain ⟨y1, z, vs, y2, y3⟩ := y; exact ⟨by rw [upd_ne nb]; exact y1, z, vs, y2, y3.mono sm⟩
      | dic ds => obtain ⟨y1, vs, y2, y3⟩ := y; exact ⟨by rw [upd_ne nb]; exact y1, vs, y2, y3.mono sm⟩
      | dicT ds => obtain ⟨y1, vs, y2, y3⟩ := y; exact ⟨by rw [upd_ne nb]; exact y1, vs, y2, y3.mono sm⟩
      | frz d' => exact Rep.mono sm y
theorem Sm.updF {a : Addr} {o : HO} (h : F a = none) : Sm F (upd F a o) := fun b u q => by
  rw [upd_ne (fun z => by rw [z, h] at q; cases q)]
  exact .inl q
theorem frzE_ok {d : D} (x : HeapOk K H F as m) (r : RepE K F as v e) (h : frzE m e = some (d, m')) : ∃ F', Ext F F' as as ∧ HeapOk K H F' as m' ∧ Rep K F' v d := by
  cases r with
  | d r => cases h; exact ⟨F, .refl, x, r⟩
  | @own a c r =>
    obtain ⟨d', h1, h2⟩ := bind2 h
    cases h2
    unfold look at h1
    cases q : m[c]? with
    | none => simp only [q] at h1; cases h1
    | some o =>
      have y := x.cell c a o r q
      simp only [q] at h1
      cases o with
      | lst ds =>
        cases h1
        obtain ⟨y1, z, vs, y2, y3⟩ := y
        have rr : Rep K (upd F a (.lst vs)) (.ref a) (.lst ds) := .lst upd_same (by rw [y3.length]; exact z) (y3.mono (Sm.updF y1))
        obtain ⟨s, hp⟩ := x.upF r y1 y2 rr
        exact ⟨_, ⟨s, List.prefix_refl _, rfl⟩, hp, rr⟩
      | dic ds =>
        cases h1
        obtain ⟨y1, vs, y2, y3⟩ := y
        have rr : Rep K (upd F a (.dK vs)) (.ref a) (.dic ds) := .dic upd_same (y3.mono (Sm.updF y1))
        obtain ⟨s, hp⟩ := x.upF r y1 y2 rr
        exact ⟨_, ⟨s, List.prefix_refl _, rfl⟩, hp, rr⟩
      | dicT ds =>
        cases h1
        obtain ⟨y1, vs, y2, y3⟩ := y
        have rr : Rep K (upd F a (.dT vs)) (.ref a) (.dicT ds) := .dicT upd_same (y3.mono (Sm.updF y1))
        obtain ⟨s, hp⟩ := x.upF r y1 y2 rr
        exact ⟨_, ⟨s, List.prefix_refl _, rfl⟩, hp, rr⟩
      | frz d =>
        cases h1
        refine ⟨F, .refl, ⟨x.sub, by rw [List.length_set]; exact x.len, x.nd, x.there, fun c' b u q1 q2 => ?_, x.prot, x.pnd⟩, y⟩
        by_cases hc : c = c'
        · subst hc
          rw [r] at q1
          cases q1
          have hl : c < m.length := by rw [← x.len]; exact (List.getElem?_eq_some_iff.mp r).1
          rw [List.getElem?_set_self hl] at q2
          cases q2
          exact y
        · rw [List.getElem?_set_ne hc] at q2
          exact x.cell c' b u q1 q2
  | deal => cases h
end

/-! ### arguments -/
def aNil : Ax := fun _ m => some ([], m)
def aCons (f : Ex) (g : Ax) : Ax := fun ρ m => (f ρ m).bind fun p => (g ρ p.2).bind fun q => some (p.1 :: q.1, q.2)
/-- the values frozen, one after another -/
def frzAll : List E → Store → Option (List D × Store)
  | [], m => some ([], m)
  | e :: es, m => (frzE m e).bind fun p => (frzAll es p.2).bind fun q => some (p.1 :: q.1, q.2)
section
variable {X : Cx} {e : Expr} {es : List Expr} {f : Ex} {g : Ax} {pos : Pos}
theorem r_anil : PA X [] (tA X.K aNil) := PA_imp pa_nil fun σ H Q h => by
  obtain ⟨ρ, m, F, as, es, m', env, hp, hf, q⟩ := h
  cases hf
  exact q _ H F as .refl hp .nil
theorem r_acons (ha : PE X e (tE X.K f)) (hr : PA X es (tA X.K g)) (hs : starEach (e :: es) X.env = (false, eval e X.env) :: starEach es X.env := by rfl) : PA X (e :: es) (tA X.K (aCons f g)) :=
  PA_imp (pa_cons ha hr hs) fun σ H Q h => by
    obtain ⟨ρ, m, F, as, es, m', env, hp, hf, q⟩ := h
    obtain ⟨⟨e1, m1⟩, h1, hf⟩ := bind2 hf
    obtain ⟨⟨es1, m2⟩, h2, hf⟩ := bind2 hf
    cases hf
    refine estep env hp h1 fun v H1 F1 as1 x1 hp1 env1 r1 => ⟨ρ, m1, F1, as1, es1, _, env1, hp1, h2, fun vs H2 F2 as2 x2 hp2 r2 => ?_⟩
    exact q _ H2 F2 as2 (x1.trans x2) hp2 (.cons (r1.ext x2) r2)
theorem frzAll_ok {K : PySem.W.Frag} {H : Hp} {as : Cs} : ∀ {es : List E} {vs : List V} {F : Hp} {m m' : Store} {ds : List D}, HeapOk K H F as m → RepEs K F as vs es → frzAll es m = some (ds, m') →
    ∃ F', Ext F F' as as ∧ HeapOk K H F' as m' ∧ Reps K F' vs ds
  | [], _, F, m, m', ds, x, .nil, h => by cases h; exact ⟨F, .refl, x, .nil⟩
  | e :: es, _, F, m, m', ds, x, .cons r rs, h => by
    obtain ⟨⟨d, m1⟩, h1, h⟩ := bind2 h
    obtain ⟨⟨ds1, m2⟩, h2, h⟩ := bind2 h
    cases h
    obtain ⟨F1, x1, hp1, r1⟩ := frzE_ok x r h1
    obtain ⟨F2, x2, hp2, r2⟩ := frzAll_ok hp1 (rs.ext x1) h2
    exact ⟨F2, x1.trans x2, hp2, .cons (r1.mono x2.1) r2⟩
/-- (a, b, ..) -/
def eTup (g : Ax) : Ex := fun ρ m => (g ρ m).bind fun p => (frzAll p.1 p.2).bind fun q => if q.1.length ≤ big then some (.d (.tup q.1), q.2) else none
/-- [a, b, ..] that is not written any more -/
def eLst (g : Ax) : Ex := fun ρ m => (g ρ m).bind fun p => (frzAll p.1 p.2).bind fun q => if q.1.length ≤ big then some (.d (.lst q.1), q.2) else none
/-- [a, b, ..] that is written later -/
def eLstO (g : Ax) : Ex := fun ρ m => (g ρ m).bind fun p => (frzAll p.1 p.2).bind fun q => if q.1.length ≤ big then some (.own q.2.length, q.2 ++ [.lst q.1]) else none
theorem r_tup {x1} (h : PA X es (tA X.K g)) : PE X (.Tuple es x1 pos) (tE X.K (eTup g)) := PE_imp (pe_tup h) fun σ H Q h => by
  obtain ⟨ρ, m, F, as, e, m', env, hp, hf, q⟩ := h
  obtain ⟨⟨es1, m1⟩, h1, hf⟩ := bind2 hf
  obtain ⟨⟨ds, m2⟩, h2, hf⟩ := bind2 hf
  refine ⟨ρ, m, F, as, es1, m1, env, hp, h1, fun vs H1 F1 as1 x1 hp1 r1 => ?_⟩
  obtain ⟨F2, x2, hp2, r2⟩ := frzAll_ok hp1 r1 h2
  split at hf
  · rename_i z
    cases hf
    have z' : vs.length ≤ sizeLine := by rw [r2.length]; exact big_le z
    refine ⟨z', fun p hn => ?_⟩
    have gr := Grow.laid (o := .tup vs) hp2.sub hn
    exact q _ _ _ as1 (x1.trans (x2.trans (hp2.ext gr))) (hp2.grow gr) (.d (.tup upd_same z' (r2.mono (gr.same hp2.sub))))
  · cases hf
theorem r_lst (h : PA X es (tA X.K g)) : PE X (.List es pos) (tE X.K (eLst g)) := PE_imp (pe_lst h) fun σ H Q h => by
  obtain ⟨ρ, m, F, as, e, m', env, hp, hf, q⟩ := h
  obtain ⟨⟨es1, m1⟩, h1, hf⟩ := bind2 hf
  obtain ⟨⟨ds, m2⟩, h2, hf⟩ := bind2 hf
  refine ⟨ρ, m, F, as, es1, m1, env, hp, h1, fun vs H1 F1 as1 x1 hp1 r1 => ?_⟩
  obtain ⟨F2, x2, hp2, r2⟩ := frzAll_ok hp1 r1 h2
  split at hf
  · rename_i z
    cases hf
    have z' : vs.length ≤ sizeLine := by rw [r2.length]; exact big_le z
    refine ⟨z', fun p hn => ?_⟩
    have gr := Grow.laid (o := .lst vs) hp2.sub hn
    exact q _ _ _ as1 (x1.trans (x2.trans (hp2.ext gr))) (hp2.grow gr) (.d (.lst upd_same z' (r2.mono (gr.same hp2.sub))))
  · cases hf
end
/-- a new cell -/
theorem HeapOk.cellNew {K : PySem.W.Frag} {H F : Hp} {as : Cs} {m : Store} {p : Addr} {ho : HO} {o : O} (x : HeapOk K H F as m) (hn : H p = none) (y : CellOk K (upd H p ho) F p o) : HeapOk K (upd H p ho) F ⟨as.c ++ [p], as.g⟩ (m ++ [o]) := by
  have ne : ∀ a, H a ≠ none → a ≠ p := fun a q z => q (by rw [z]; exact hn)
  have nF : F p = none := x.sub.free hn
  refine ⟨fun a u q => ?_, by show (as.c ++ [p]).length = _; rw [List.length_append, List.length_append, x.len]; rfl, ?_, fun a q => ?_, fun c a u q1 q2 => ?_, fun r hr => ?_, x.pnd⟩
  · rw [upd_ne (ne a (x.sub.there q))]; exact x.sub a u q
  · show (as.c ++ [p]).Nodup
    rw [List.nodup_append]
    refine ⟨x.nd, by simp, fun a ha b hb => ?_⟩
    have e : b = p := by simpa using hb
    rw [e]
    exact ne a (x.there a ha)
  · rcases List.mem_append.mp q with q | q
    · rw [upd_ne (ne a (x.there a q))]; exact x.there a q
    · have e : a = p := by simpa using q
      rw [e, upd_same]; simp
  · have q1 : (as.c ++ [p])[c]? = some a := q1
    by_cases hc : c < as.c.length
    · rw [List.getElem?_append_left hc] at q1
      rw [List.getElem?_append_left (by rw [← x.len]; exact hc)] at q2
      have na := ne a (x.there a (List.mem_of_getElem? q1))
      have z := x.cell c a u q1 q2
      cases u with
      | lst ds => obtain ⟨y1, z, vs, y2, y3⟩ := z; exact ⟨y1, z, vs, by rw [upd_ne na]; exact y2, y3⟩
      | dic ds => obtain ⟨y1, vs, y2, y3⟩ := z; exact ⟨y1, vs, by rw [upd_ne na]; exact y2, y3⟩
      | dicT ds => obtain ⟨y1, vs, y2, y3⟩ := z; exact ⟨y1, vs, by rw [upd_ne na]; exact y2, y3⟩
      | frz d => exact z
    · rw [List.getElem?_append_right (by omega)] at q1
      rw [List.getElem?_append_right (by rw [← x.len]; omega)] at q2
      rw [← x.len] at q2
      cases k : c - as.c.length with
      | zero =>
        rw [k] at q1 q2
        simp at q1 q2
        subst q1 q2
        exact y
      | succ j => rw [k] at q1; simp at q1
  · obtain ⟨p1, p2, p3⟩ := x.prot r hr
    have nr := ne r.1 (by rw [p1]; simp)
    refine ⟨by rw [upd_ne nr]; exact p1, p2, fun z => ?_⟩
    rcases List.mem_append.mp z with z | z
    · exact p3 z
    · exact nr (by simpa using z)
theorem pre_snoc {α : Type} (l : List α) (x : α) : l <+: l ++ [x] := ⟨[x], rfl⟩
section
variable {X : Cx} {e : Expr} {es : List Expr} {f : Ex} {g : Ax} {pos : Pos}
theorem r_lstO (h : PA X es (tA X.K g)) : PE X (.List es pos) (tE X.K (eLstO g)) := PE_imp (pe_lst h) fun σ H Q h => by
  obtain ⟨ρ, m, F, as, e, m', env, hp, hf, q⟩ := h
  obtain ⟨⟨es1, m1⟩, h1, hf⟩ := bind2 hf
  obtain ⟨⟨ds, m2⟩, h2, hf⟩ := bind2 hf
  refine ⟨ρ, m, F, as, es1, m1, env, hp, h1, fun vs H1 F1 as1 x1 hp1 r1 => ?_⟩
  obtain ⟨F2, x2, hp2, r2⟩ := frzAll_ok hp1 r1 h2
  split at hf
  · rename_i z
    cases hf
    have z' : vs.length ≤ sizeLine := by rw [r2.length]; exact big_le z
    refine ⟨z', fun p hn => ?_⟩
    refine q _ _ F2 ⟨as1.c ++ [p], as1.g⟩ (x1.trans (x2.trans ⟨Sm.refl _, pre_snoc _ _, rfl⟩)) (hp2.cellNew hn ⟨hp2.sub.free hn, big_le z, vs, upd_same, r2⟩) (.own ?_)
    rw [← hp2.len]
    simp
  · cases hf
end
end PL
/-! PL4: targets, what is walked, comprehensions, statements, functions. -/
namespace PL
open PySem PySem.Spec L2
set_option autoImplicit false

/-! ### targets -/
abbrev Tg := E → Rho → Option Rho
structure TgOk (K : PySem.W.Frag) (g : TG) (tg : Tg) (vs : List Nat) : Prop where
  run : ∀ {v : V} {σ : L2.St} {H F : Hp} {as : Cs} {m : Store} {ρ ρ' : Rho} {e : E} {Q : L2.St → Hp → Prop}, EnvOk K F as σ ρ → HeapOk K H F as m → RepE K F as v e → tg e ρ = some ρ' →
    (∀ σ' : L2.St, EnvOk K F as σ' ρ' → σ'.length = σ.length → (∀ j : Nat, j ∉ vs → σ'[j]? = σ[j]?) → Q σ' H) → g v σ H Q
def tgName (i : Nat) : Tg := fun e ρ => some (ρ.set i (some e))
theorem tgOk_name {K : PySem.W.Frag} {i : Nat} {vs : List Nat} (hi : i ∈ vs) : TgOk K (gName i) (tgName i) vs := ⟨fun {v σ H F as m ρ ρ' e Q} env hp r h q => by
  cases h
  exact q _ (env.set i r) (by rw [List.length_set]) fun j hj => List.getElem?_set_ne (fun z => hj (by rw [← z]; exact hi))⟩
def setAll : List Nat → List D → Rho → Option Rho
  | [], [], ρ => some ρ
  | i :: is, d :: ds, ρ => setAll is ds (ρ.set i (some (.d d)))
  | _, _, _ => none
def tgTup (is : List Nat) : Tg := fun e ρ => match e with
  | .d (.tup ds) => setAll is ds ρ
  | .d (.lst ds) => setAll is ds ρ
  | _ => none
def gNames : List Nat → TGs
  | [] => gNil
  | i :: is => gCons (gName i) (gNames is)
theorem gNames_ok {K : PySem.W.Frag} {all : List Nat} : ∀ {is : List Nat} {ds : List D} {vs : List V} {σ : L2.St} {H F : Hp} {as : Cs} {m : Store} {ρ ρ' : Rho} {Q : L2.St → Hp → Prop}, (∀ i ∈ is, i ∈ all) → EnvOk K F as σ ρ → HeapOk K H F as m → Reps K F vs ds → setAll is ds ρ = some ρ' →
    (∀ σ' : L2.St, EnvOk K F as σ' ρ' → σ'.length = σ.length → (∀ j : Nat, j ∉ all → σ'[j]? = σ[j]?) → Q σ' H) → gNames is vs σ H Q
  | [], [], _, σ, H, F, as, m, ρ, ρ', Q, hi, env, hp, .nil, h, q => by
    cases h
    exact ⟨rfl, q σ env rfl fun _ _ => rfl⟩
  | i :: is, d :: ds, _, σ, H, F, as, m, ρ, ρ', Q, hi, env, hp, .cons r rs, h, q => by
    refine ⟨_, _, rfl, gNames_ok (all := all) (fun j hj => hi j (List.mem_cons_of_mem _ hj)) (env.set i (.d r)) hp rs h fun σ' e l s => q σ' e (by rw [l, List.length_set]) fun j hj => ?_⟩
    rw [s j hj]
    exact List.getElem?_set_ne (fun z => hj (by rw [← z]; exact hi i List.mem_cons_self))
  | [], _ :: _, _, _, _, _, _, _, _, _, _, _, _, _, _, h, _ => by cases h
  | _ :: _, [], _, _, _, _, _, _, _, _, _, _, _, _, _, h, _ => by cases h
theorem setAll_len : ∀ {is : List Nat} {ds : List D} {ρ ρ' : Rho}, setAll is ds ρ = some ρ' → ds.length = is.length
  | [], [], _, _, _ => rfl
  | i :: is, d :: ds, _, _, h => congrArg (· + 1) (setAll_len (is := is) (ds := ds) h)
  | [], _ :: _, _, _, h => by cases h
  | _ :: _, [], _, _, h => by cases h
/-- a tuple or a list of the right length -/
def gSeqs (K : PySem.W.Frag) (n : Nat) (t : TGs) : TG := fun v σ H Q => gTup K n t v σ H Q ∨ gLst K n t v σ H Q
theorem pg_seqs {X : Cx} {es : List Expr} {k : Nat} {t : TGs} {n : Nat} {pos : Pos} (hc : X.calm = true) (h : PGs X es t) (hn : (assignEach es X.env).length = n) (hst : (assignEach es X.env).findIdx? (·.1) = none) : PG X (.Tuple es k pos) (gSeqs X.K n t) :=
  ⟨fun pins s σ H v u Q I r q => q.elim ((pg_tup hc h hn hst).run pins s σ H v u Q I r) ((pg_lst hc h hn hst).run pins s σ H v u Q I r)⟩
theorem tgOk_tup {K : PySem.W.Frag} {is vs : List Nat} {n : Nat} (hn : n = is.length) (hi : ∀ i ∈ is, i ∈ vs) : TgOk K (gSeqs K n (gNames is)) (tgTup is) vs := ⟨fun {v σ H F as m ρ ρ' e Q} env hp r h q => by
  unfold tgTup at h
  split at h
  · rename_i ds
    cases r with
    | d r =>
      obtain ⟨a, xs, rfl, f1, h1, z1, r1⟩ := RepL.tup hp.sub (.of r : RepL K H F v (.tup ds))
      exact .inl ⟨a, xs, rfl, .of h1, by rw [r1.length, setAll_len h, hn], gNames_ok hi env hp r1 h q⟩
  · rename_i ds
    cases r with
    | d r =>
      obtain ⟨a, xs, rfl, h1, z1, r1⟩ := RepL.list hp.sub (.of r : RepL K H F v (.lst ds))
      exact .inr ⟨a, xs, rfl, .of h1, by rw [r1.length, setAll_len h, hn], gNames_ok hi env hp r1 h q⟩
  · cases h⟩

/-! ### what is walked -/
abbrev Ix := Rho → Store → Option (List D × Store)
def Walks (K : PySem.W.Frag) (J : It) (F : Hp) (xs : List D) : Prop := xs.length ≤ sizeLine ∧ ∀ F2 as2 m2 H2, Sm F F2 → HeapOk K H2 F2 as2 m2 → ∀ i : Nat,
  (xs.length ≤ i → J.stop i H2) ∧ ∀ d, xs[i]? = some d → J.go i H2 ∧ ∀ x H', J.yld i H2 x H' → ∃ F', Grow H2 F2 H' F' ∧ Rep K F' x d
def tI (K : PySem.W.Frag) (f : Ix) : TI := fun σ H R => ∃ ρ m F as xs m', EnvOk K F as σ ρ ∧ HeapOk K H F as m ∧ f ρ m = some (xs, m') ∧
  ∀ J H' F' as', Ext F F' as as' → HeapOk K H' F' as' m' → Walks K J F' xs → R J H'
section
variable {X : Cx} {tg iter : Expr} {wi wi' : TI}
theorem PI_imp (h : PI X tg iter wi) (i : ∀ σ H R, wi' σ H R → wi σ H R) : PI X tg iter wi' := ⟨fun pins s σ H R I q => h.run pins s σ H R I (i σ H R q)⟩
theorem PI_or (h : PI X tg iter wi) (h' : PI X tg iter wi') : PI X tg iter (fun σ H R => wi σ H R ∨ wi' σ H R) := ⟨fun pins s σ H R I q => q.elim (h.run pins s σ H R I) (h'.run pins s σ H R I)⟩
end
def itemsOf : D → Option (List D)
  | .lst xs => some xs
  | .tup xs => some xs
  | _ => none
/-- a list or a tuple -/
def iSeq (f : Ex) : Ix := fun ρ m => (f ρ m).bind fun p => (frzE p.2 p.1).bind fun q => (itemsOf q.1).bind fun xs => some (xs, q.2)
section
variable {K : PySem.W.Frag} {F H : Hp} {as : Cs} {m : Store} {a : Addr} {vs : List V} {ds : List D}
theorem FSub.tup (s : FSub F H) (h : F a = some (.tup vs)) : H a = some (.tup vs) := by
  rcases s _ _ h with q | ⟨q, _⟩
  · exact q
  · cases q
theorem FSub.lst (s : FSub F H) (h : F a = some (.lst vs)) : H a = some (.lst vs) := by
  rcases s _ _ h with q | ⟨q, _⟩
  · exact q
  · cases q
theorem walks_list (h : F a = some (.lst vs)) (zz : vs.length ≤ sizeLine) (r : Reps K F vs ds) : Walks K (Itl K a) F ds := by
  refine ⟨by rw [← r.length]; exact zz, ?_⟩
  intro F2 as2 m2 H2 x hp i
  have hH := hp.sub.lst (x.ex rfl h)
  have rl := r.length
  refine ⟨fun hi => ⟨vs, .of hH, by omega⟩, fun d h1 => ?_⟩
  obtain ⟨v, h2, h3⟩ := r.get h1
  refine ⟨⟨vs, v, .of hH, h2⟩, fun x' H' ⟨e1, e2⟩ => ?_⟩
  subst e1
  have e3 := e2 vs (.of hH)
  rw [h2] at e3
  cases e3
  exact ⟨F2, .refl hp.sub, h3.mono x⟩
theorem walks_tup (h : F a = some (.tup vs)) (zz : vs.length ≤ sizeLine) (r : Reps K F vs ds) : Walks K (Itt K a) F ds := by
  refine ⟨by rw [← r.length]; exact zz, ?_⟩
  intro F2 as2 m2 H2 x hp i
  have hH := hp.sub.tup (x.ex rfl h)
  have rl := r.length
  refine ⟨fun hi => ⟨vs, .of hH, by omega⟩, fun d h1 => ?_⟩
  obtain ⟨v, h2, h3⟩ := r.get h1
  refine ⟨⟨vs, v, .of hH, h2⟩, fun x' H' ⟨e1, e2⟩ => ?_⟩
  subst e1
  have e3 := e2 vs (.of hH)
  rw [h2] at e3
  cases e3
  exact ⟨F2, .refl hp.sub, h3.mono x⟩
end
section
variable {X : Cx} {tg l : Expr} {f fa fb : Ex} {p pos : Pos}
theorem r_iter (h : PE X l (tE X.K f)) : PI X tg l (tI X.K (iSeq f)) := by
  refine PI_imp (PI_or (pi_list h) (pi_tup h)) fun σ H R h => ?_
  obtain ⟨ρ, m, F, as, xs, m', env, hp, hf, q⟩ := h
  obtain ⟨⟨e, m1⟩, h1, hf⟩ := bind2 hf
  obtain ⟨⟨d, m2⟩, h2, hf⟩ := bind2 hf
  obtain ⟨ds, h3, hf⟩ := bind2 hf
  cases hf
  cases d with
  | lst ds' =>
    cases h3
    refine .inl (estep env hp h1 fun v H1 F1 as1 x1 hp1 env1 r1 => ?_)
    obtain ⟨F2, x2, hp2, r2⟩ := frzE_ok hp1 r1 h2
    cases r2 with
    | lst e1 e2 e3 => exact ⟨_, rfl, ⟨_, .of (hp2.sub.lst e1)⟩, q _ H1 F2 as1 (x1.trans x2) hp2 (walks_list e1 e2 e3)⟩
  | tup ds' =>
    cases h3
    refine .inr (estep env hp h1 fun v H1 F1 as1 x1 hp1 env1 r1 => ?_)
    obtain ⟨F2, x2, hp2, r2⟩ := frzE_ok hp1 r1 h2
    cases r2 with
    | tup e1 e2 e3 => exact ⟨_, rfl, ⟨_, .of (hp2.sub.tup e1)⟩, q _ H1 F2 as1 (x1.trans x2) hp2 (walks_tup e1 e2 e3)⟩
  | _ => cases h3
def rangeE (lo : Int) (n : Nat) : List D := (List.range n).map fun (i : Nat) => .int (lo + (i : Int))
theorem rangeE_length (lo : Int) (n : Nat) : (rangeE lo n).length = n := by unfold rangeE; rw [List.length_map, List.length_range]
theorem walks_range {K : PySem.W.Frag} {F : Hp} (lo : Int) (n : Nat) (zz : n ≤ sizeLine) : Walks K (Itr lo n) F (rangeE lo n) := by
  refine ⟨by rw [rangeE_length]; exact zz, ?_⟩
  intro F2 as2 m2 H2 x hp i
  refine ⟨fun hi => by rw [rangeE_length] at hi; exact hi, fun e he => ?_⟩
  have hi : i < n := by rw [← rangeE_length lo n]; exact (List.getElem?_eq_some_iff.mp he).1
  refine ⟨hi, fun x' H' ⟨e1, e2⟩ => ?_⟩
  subst e1 e2
  refine ⟨F2, .refl hp.sub, ?_⟩
  unfold rangeE at he
  rw [List.getElem?_map, List.getElem?_range hi] at he
  cases he
  exact .int
def intOf (m : Store) (e : E) : Option Int := match look m e with
  | some (.int i) => some i
  | _ => none
theorem intOf_rep {K : PySem.W.Frag} {F H : Hp} {as : Cs} {m : Store} {v : V} {e : E} {i : Int} (x : HeapOk K H F as m) (r : RepE K F as v e) (h : intOf m e = some i) : v = .int i := by
  unfold intOf at h
  split at h
  · rename_i j e1
    cases h
    exact (look_rep x r e1).int
  · cases h
noncomputable def iRange1 (f : Ex) : Ix := fun ρ m => (f ρ m).bind fun p => (intOf p.2 p.1).bind fun n => if okP (-(big : Int) ≤ n ∧ n ≤ (big : Int)) = true then some (rangeE 0 n.toNat, p.2) else none
noncomputable def iRange2 (f g : Ex) : Ix := fun ρ m => (f ρ m).bind fun p => (g ρ p.2).bind fun q => (intOf q.2 p.1).bind fun a => (intOf q.2 q.1).bind fun b => if okP (-(big : Int) ≤ a ∧ a ≤ big ∧ -(big : Int) ≤ b ∧ b ≤ big) = true then some (rangeE a (b - a).toNat, q.2) else none
theorem r_range1 {a : Expr} (hg : Gl X "range") (hm : X.mg "range" = none) (ha : PE X a (tE X.K fa)) (hs : starEach [a] X.env = [(false, eval a X.env)] := by rfl) (hs0 : starEach [a] X.env = (false, eval a X.env) :: starEach [] X.env := by rfl) :
    PI X tg (.Call (.Name "range" p) [a] [] pos) (tI X.K (iRange1 fa)) := by
  refine PI_imp (pi_range1 hg hm (pa_cons ha pa_nil hs0) hs) fun σ H R h => ?_
  obtain ⟨ρ, m, F, as, xs, m', env, hp, hf, q⟩ := h
  obtain ⟨⟨e, m1⟩, h1, hf⟩ := bind2 hf
  obtain ⟨n, h2, hf⟩ := bind2 hf
  split at hf
  · rename_i z
    have z := of_okP z
    cases hf
    refine estep env hp h1 fun v H1 F1 as1 x1 hp1 env1 r1 => ?_
    have ev := intOf_rep hp1 r1 h2
    subst ev
    have hb : (big : Int) = 1000000 := rfl
    exact ⟨n, rfl, by omega, by omega, q _ H1 F1 as1 x1 hp1 (walks_range 0 n.toNat (by rw [sizeLine_eq]; omega))⟩
  · cases hf
theorem r_range2 {a b : Expr} (hg : Gl X "range") (hm : X.mg "range" = none) (ha : PE X a (tE X.K fa)) (hb : PE X b (tE X.K fb)) (hs : starEach [a, b] X.env = [(false, eval a X.env), (false, eval b X.env)] := by rfl) (hs2 : starEach [b] X.env = [(false, eval b X.env)] := by rfl)
    (hsa : starEach [a, b] X.env = (false, eval a X.env) :: starEach [b] X.env := by rfl) (hs0 : starEach [b] X.env = (false, eval b X.env) :: starEach [] X.env := by rfl) :
    PI X tg (.Call (.Name "range" p) [a, b] [] pos) (tI X.K (iRange2 fa fb)) := by
  refine PI_imp (pi_range2 hg hm (pa_cons ha (pa_cons hb pa_nil hs0) hsa) hs hs2) fun σ H R h => ?_
  obtain ⟨ρ, m, F, as, xs, m', env, hp, hf, q⟩ := h
  obtain ⟨⟨e, m1⟩, h1, hf⟩ := bind2 hf
  obtain ⟨⟨e2, m2⟩, h2, hf⟩ := bind2 hf
  obtain ⟨i, h3, hf⟩ := bind2 hf
  obtain ⟨j, h4, hf⟩ := bind2 hf
  split at hf
  · rename_i z
    have z := of_okP z
    cases hf
    refine estep env hp h1 fun v H1 F1 as1 x1 hp1 env1 r1 => estep env1 hp1 h2 fun w H2 F2 as2 x2 hp2 env2 r2 => ?_
    have ev := intOf_rep hp2 (r1.ext x2) h3
    have ew := intOf_rep hp2 r2 h4
    subst ev ew
    have hb : (big : Int) = 1000000 := rfl
    exact ⟨i, j, rfl, ⟨by omega, by omega, by omega, by omega⟩, q _ H2 F2 as2 (x1.trans x2) hp2 (walks_range i (j - i).toNat (by rw [sizeLine_eq]; omega))⟩
  · cases hf
end

/-! ### list comprehensions -/
def lcLoop (g : Tg) (tt : Tx) (te : Ex) (ρ : Rho) : List D → Store → Option (List D × Store)
  | [], m => some ([], m)
  | x :: xs, m => (g (.d x) ρ).bind fun ρ1 => (tt ρ1 m).bind fun b => if b.1 = true then (te ρ1 b.2).bind fun y => (frzE y.2 y.1).bind fun d => (lcLoop g tt te ρ xs d.2).bind fun r => some (d.1 :: r.1, r.2)
    else lcLoop g tt te ρ xs b.2
def eLc (it : Ix) (vs : List Nat) (g : Tg) (tt : Tx) (te : Ex) : Ex := fun ρ m => (it ρ m).bind fun p => (lcLoop g tt te (wipeE ρ vs) p.1 p.2).bind fun r => some (.d (.lst r.1), r.2)
def eLcO (it : Ix) (vs : List Nat) (g : Tg) (tt : Tx) (te : Ex) : Ex := fun ρ m => (it ρ m).bind fun p => (lcLoop g tt te (wipeE ρ vs) p.1 p.2).bind fun r => some (.own r.2.length, r.2 ++ [.lst r.1])
def tTrue : Tx := fun _ m => some (true, m)
theorem wipe_get {σ : L2.St} {j : Nat} : ∀ {vs : List Nat}, j ∉ vs → (wipe σ vs)[j]? = σ[j]?
  | [], _ => rfl
  | v :: vs, h => by
    show ((wipe σ vs).set v none)[j]? = _
    rw [List.getElem?_set_ne (fun z => h (by rw [z]; exact List.mem_cons_self)), wipe_get (fun z => h (List.mem_cons_of_mem _ z))]
theorem wipe_at {σ : L2.St} {j : Nat} : ∀ {vs : List Nat}, j ∈ vs → j < σ.length → (wipe σ vs)[j]? = some none
  | v :: vs, h, hl => by
    show ((wipe σ vs).set v none)[j]? = _
    by_cases e : v = j
    · subst e
      rw [List.getElem?_set_self (by rw [wipe_length]; exact hl)]
    · rw [List.getElem?_set_ne e]
      rcases List.mem_cons.mp h with q | q
      · exact absurd q.symm e
      · exact wipe_at q hl
theorem wipe_eq {σ σ' : L2.St} {vs : List Nat} (hl : σ'.length = (wipe σ vs).length) (h : ∀ j : Nat, j ∉ vs → σ'[j]? = (wipe σ vs)[j]?) : wipe σ' vs = wipe σ vs := by
  refine List.ext_getElem? fun j => ?_
  rw [wipe_length] at hl
  by_cases hj : j ∈ vs
  · by_cases hs : j < σ.length
    · rw [wipe_at hj (by rw [hl]; exact hs), wipe_at hj hs]
    · rw [List.getElem?_eq_none (by rw [wipe_length]; omega), List.getElem?_eq_none (by rw [wipe_length]; omega)]
  · rw [wipe_get hj, h j hj]
theorem lcLoop_len {g : Tg} {tt : Tx} {te : Ex} {ρ : Rho} : ∀ {xs : List D} {m m' : Store} {ds : List D}, lcLoop g tt te ρ xs m = some (ds, m') → ds.length ≤ xs.length
  | [], _, _, _, h => by cases h; exact Nat.zero_le _
  | x :: xs, m, m', ds, h => by
    obtain ⟨ρ1, h1, h⟩ := bind2 h
    obtain ⟨⟨b, m1⟩, h2, h⟩ := bind2 h
    split at h
    · obtain ⟨⟨y, m2⟩, h3, h⟩ := bind2 h
      obtain ⟨⟨d, m3⟩, h4, h⟩ := bind2 h
      obtain ⟨⟨r, m4⟩, h5, h⟩ := bind2 h
      cases h
      exact Nat.succ_le_succ (lcLoop_len h5)
    · exact Nat.le_succ_of_le (lcLoop_len h)
/-- the new list at D while it is made: it is to stand -/
theorem lc_main {K : PySem.W.Frag} {J : It} {g : TG} {tg : Tg} {tt : Tx} {te : Ex} {vs : List Nat} {σ : L2.St} {H F : Hp} {as : Cs} {m m' : Store} {ρ : Rho} {xs : List D} {ds : List D} {L : Addr} {Q : VK}
    (hg : TgOk K g tg vs) (env : EnvOk K F as σ ρ) (hp : HeapOk K H F as m) (wk : Walks K J F xs) (hf : lcLoop tg tt te (wipeE ρ vs) xs m = some (ds, m')) (hb : ds.length ≤ sizeLine) (hD : H L = none)
    (q : ∀ (H' F' : Hp) (c' : List Addr) (vs' : List V), Sm F F' → as.c <+: c' → Reps K F' vs' ds → HeapOk K H' F' ⟨c', (L, .lst vs') :: as.g⟩ m' → Q (.ref L) H') :
    ∃ W : Nat → Nat → Hp → Prop, (∃ n, W 0 n (upd H L (.lst []))) ∧ ∀ i n H, W i n H →
  (J.stop i H ∧ Q (.ref L) H) ∨ (J.go i H ∧ ∃ Nx : Hp → Prop, (∀ H', Nx H' → ∃ n', n' < n ∧ W (i + 1) n' H') ∧ ∀ x H', J.yld i H x H' → g x (wipe σ vs) H' fun σ2 H2 => wipe σ2 vs = wipe σ vs ∧ tT K tt σ2 H2 fun b H3 =>
    if b = true then tE K te σ2 H3 fun y H4 => ∃ acc, H4 L = some (.lst acc) ∧ acc.length < sizeLine ∧ Nx (upd H4 L (.lst (acc ++ [y]))) else Nx H3) := by
  refine ⟨fun i n H1 => n = xs.length - i ∧ i ≤ xs.length ∧ ∃ (F1 : Hp) (c1 : List Addr) (m1 : Store) (acc : List V) (d1 d2 : List D), Sm F F1 ∧ as.c <+: c1 ∧ Reps K F1 acc d1 ∧ HeapOk K H1 F1 ⟨c1, (L, .lst acc) :: as.g⟩ m1 ∧ lcLoop tg tt te (wipeE ρ vs) (xs.drop i) m1 = some (d2, m') ∧ ds = d1 ++ d2,
    ⟨_, rfl, Nat.zero_le _, F, as.c, m, [], [], ds, Sm.refl F, List.prefix_refl _, .nil, ?_, hf, rfl⟩, ?_⟩
  · have ne : ∀ a, H a ≠ none → a ≠ L := fun a q z => q (by rw [z]; exact hD)
    have nc : L ∉ as.c := fun z => hp.there L z hD
    refine ⟨fun a u q => by rw [upd_ne (ne a (hp.sub.there q))]; exact hp.sub a u q, hp.len, hp.nd, fun a q => by rw [upd_ne (ne a (hp.there a q))]; exact hp.there a q, fun c a u q1 q2 => ?_, fun p hq => ?_, ?_⟩
    rotate_left 2
    · show (L :: as.g.map (·.1)).Nodup
      refine List.nodup_cons.mpr ⟨fun z => ?_, hp.pnd⟩
      obtain ⟨p, hq, e⟩ := List.mem_map.mp z
      have e1 := (hp.prot p hq).1
      rw [e, hD] at e1
      cases e1
    · have na := ne a (hp.there a (List.mem_of_getElem? q1))
      have z := hp.cell c a u q1 q2
      cases u with
      | lst ds => obtain ⟨y1, z, vs, y2, y3⟩ := z; exact ⟨y1, z, vs, by rw [upd_ne na]; exact y2, y3⟩
      | dic ds => obtain ⟨y1, vs, y2, y3⟩ := z; exact ⟨y1, vs, by rw [upd_ne na]; exact y2, y3⟩
      | dicT ds => obtain ⟨y1, vs, y2, y3⟩ := z; exact ⟨y1, vs, by rw [upd_ne na]; exact y2, y3⟩
      | frz d => exact z
    · rcases List.mem_cons.mp hq with rfl | hq
      · exact ⟨upd_same, hp.sub.free hD, nc⟩
      · obtain ⟨p1, p2, p3⟩ := hp.prot p hq
        exact ⟨by rw [upd_ne (ne p.1 (by rw [p1]; simp))]; exact p1, p2, p3⟩
  · rintro i n H1 ⟨rfl, hi, F1, c1, m1, acc, d1, d2, s1, pc, ra, hp1, hl, eds⟩
    obtain ⟨w1, w2⟩ := wk.2 F1 _ m1 H1 s1 hp1 i
    by_cases hlt : i < xs.length
    · obtain ⟨hgo, hy⟩ := w2 xs[i] (List.getElem?_eq_getElem hlt)
      refine .inr ⟨hgo, fun H' => ∃ (F1 : Hp) (c1 : List Addr) (m1 : Store) (acc : List V) (d1 d2 : List D), Sm F F1 ∧ as.c <+: c1 ∧ Reps K F1 acc d1 ∧ HeapOk K H' F1 ⟨c1, (L, .lst acc) :: as.g⟩ m1 ∧ lcLoop tg tt te (wipeE ρ vs) (xs.drop (i + 1)) m1 = some (d2, m') ∧ ds = d1 ++ d2,
        fun H' h => ⟨_, by omega, rfl, hlt, h⟩, fun x H' hx => ?_⟩
      obtain ⟨F2, gr, rx⟩ := hy x H' hx
      have hp2 := hp1.grow gr
      have s2 := gr.same hp1.sub
      have env2 : EnvOk K F2 ⟨c1, (L, .lst acc) :: as.g⟩ (wipe σ vs) (wipeE ρ vs) := by
        refine ⟨(env.wipe vs).len, fun j e h => ?_⟩
        obtain ⟨v, a, b⟩ := (env.wipe vs).get j e h
        refine ⟨v, a, ?_⟩
        have sm := s1.trans s2
        cases b with
        | d r => exact .d (r.mono sm)
        | own r => exact .own (pre_get pc r)
        | deal d1 d2 z d3 => exact .deal (sm.ex rfl d1) (sm.ex rfl d2) z (pre_get pc d3)
      rw [List.drop_eq_getElem_cons hlt] at hl
      obtain ⟨ρ1, h1, hl⟩ := bind2 hl
      obtain ⟨⟨b, m2⟩, h2, hl⟩ := bind2 hl
      refine hg.run env2 hp2 (.d rx) h1 fun σ' env3 l3 s3 => ⟨wipe_eq l3 s3, ?_⟩
      refine tstep env3 hp2 h2 fun H3 F3 as3 x3 hp3 env4 => ?_
      obtain ⟨c3, g3⟩ := as3
      obtain ⟨x31, x32, x33⟩ := x3
      have eg : g3 = (L, .lst acc) :: as.g := x33
      subst eg
      cases b with
      | false =>
        exact ⟨F3, c3, m2, acc, d1, d2, (s1.trans s2).trans x31, pc.trans x32, (ra.mono s2).mono x31, hp3, hl, eds⟩
      | true =>
        obtain ⟨⟨y, m3⟩, h3, hl⟩ := bind2 hl
        obtain ⟨⟨d, m4⟩, h4, hl⟩ := bind2 hl
        obtain ⟨⟨r, m5⟩, h5, hl⟩ := bind2 hl
        cases hl
        refine estep env4 hp3 h3 fun yv H4 F4 as4 x4 hp4 env5 ry => ?_
        obtain ⟨c4, g4⟩ := as4
        obtain ⟨x41, x42, x43⟩ := x4
        have eg : g4 = (L, .lst acc) :: as.g := x43
        subst eg
        obtain ⟨F5, x5, hp5, rd⟩ := frzE_ok hp4 ry h4
        have sF : Sm F1 F5 := ((s2.trans x31).trans x41).trans x5.1
        have pr := hp5.prot (L, .lst acc) List.mem_cons_self
        have lenA : acc.length = d1.length := ra.length
        have lenB : d1.length < ds.length := by rw [eds, List.length_append, List.length_cons]; omega
        refine ⟨acc, pr.1, Nat.lt_of_lt_of_le (by rw [lenA]; exact lenB) hb, F5, c4, m4, acc ++ [yv], d1 ++ [d], r, s1.trans sF, (pc.trans x32).trans x42, (ra.mono sF).append (.cons rd .nil), ?_, h5, by rw [eds]; simp⟩
        refine ⟨fun a u q => ?_, hp5.len, hp5.nd, fun a q => ?_, fun c a u q1 q2 => ?_, fun p hq => ?_, hp5.pnd⟩
        · rw [upd_ne (fun z => by rw [z, pr.2.1] at q; cases q)]; exact hp5.sub a u q
        · rw [upd_ne (fun z => pr.2.2 (by rw [← z]; exact q))]; exact hp5.there a q
        · have na : a ≠ L := fun z => pr.2.2 (by rw [← z]; exact List.mem_of_getElem? q1)
          have z := hp5.cell c a u q1 q2
          cases u with
          | lst ds => obtain ⟨y1, z, vs, y2, y3⟩ := z; exact ⟨y1, z, vs, by rw [upd_ne na]; exact y2, y3⟩
          | dic ds => obtain ⟨y1, vs, y2, y3⟩ := z; exact ⟨y1, vs, by rw [upd_ne na]; exact y2, y3⟩
          | dicT ds => obtain ⟨y1, vs, y2, y3⟩ := z; exact ⟨y1, vs, by rw [upd_ne na]; exact y2, y3⟩
          | frz d => exact z
        · rcases List.mem_cons.mp hq with rfl | hq
          · exact ⟨upd_same, pr.2.1, pr.2.2⟩
          · obtain ⟨p1, p2, p3⟩ := hp5.prot p (List.mem_cons_of_mem _ hq)
            have np : p.1 ≠ L := fun z => by
              have e := (hp.prot p hq).1
              rw [z, hD] at e
              cases e
            exact ⟨by rw [upd_ne np]; exact p1, p2, p3⟩
    · have e : i = xs.length := by omega
      subst e
      rw [List.drop_length] at hl
      cases hl
      rw [List.append_nil] at eds
      subst eds
      exact .inl ⟨w1 (Nat.le_refl _), q H1 F1 c1 acc s1 pc ra hp1⟩

section
variable {K : PySem.W.Frag} {F F' H H' : Hp} {c : List Addr} {g : List (Addr × HO)} {m : Store} {L : Addr} {vs : List V} {ds : List D}
/-- the made list becomes data, or a cell -/
theorem made_frz (hp : HeapOk K H F ⟨c, (L, .lst vs) :: g⟩ m) (r : Reps K F vs ds) (hb : ds.length ≤ sizeLine) : Sm F (upd F L (.lst vs)) ∧ HeapOk K H (upd F L (.lst vs)) ⟨c, g⟩ m ∧ Rep K (upd F L (.lst vs)) (.ref L) (.lst ds) := by
  obtain ⟨p1, p2, p3⟩ := hp.prot (L, .lst vs) List.mem_cons_self
  have sm : Sm F (upd F L (.lst vs)) := Sm.updF p2
  refine ⟨sm, ⟨fun b u q => ?_, hp.len, hp.nd, hp.there, fun c' b u q1 q2 => ?_, fun p hq => ?_, (List.nodup_cons.mp hp.pnd).2⟩, .lst upd_same (by rw [r.length]; exact hb) (r.mono sm)⟩
  · by_cases e : b = L
    · subst e
      rw [upd_same] at q
      cases q
      exact .inl p1
    · rw [upd_ne e] at q
      exact hp.sub b u q
  · have nb : b ≠ L := fun z => p3 (by rw [← z]; exact List.mem_of_getElem? q1)
    have y := hp.cell c' b u q1 q2
    cases u with
    | lst ds => obtain ⟨y1, z, vs, y2, y3⟩ := y; exact ⟨by rw [upd_ne nb]; exact y1, z, vs, y2, y3.mono sm⟩
    | dic ds => obtain ⟨y1, vs, y2, y3⟩ := y; exact ⟨by rw [upd_ne nb]; exact y1, vs, y2, y3.mono sm⟩
    | dicT ds => obtain ⟨y1, vs, y2, y3⟩ := y; exact ⟨by rw [upd_ne nb]; exact y1, vs, y2, y3.mono sm⟩
    | frz d' => exact Rep.mono sm y
  · obtain ⟨q1, q2, q3⟩ := hp.prot p (List.mem_cons_of_mem _ hq)
    exact ⟨q1, by rw [upd_ne (fun z => (List.nodup_cons.mp hp.pnd).1 (List.mem_map.mpr ⟨p, hq, z⟩))]; exact q2, q3⟩
theorem made_own (hp : HeapOk K H F ⟨c, (L, .lst vs) :: g⟩ m) (r : Reps K F vs ds) (hb : ds.length ≤ sizeLine) : HeapOk K H F ⟨c ++ [L], g⟩ (m ++ [.lst ds]) := by
  obtain ⟨p1, p2, p3⟩ := hp.prot (L, .lst vs) List.mem_cons_self
  have hl : c.length = m.length := hp.len
  refine ⟨hp.sub, by show (c ++ [L]).length = _; rw [List.length_append, List.length_append, hl]; rfl, ?_, fun a q => ?_, fun c' b u q1 q2 => ?_, fun p hq => ?_, (List.nodup_cons.mp hp.pnd).2⟩
  · show (c ++ [L]).Nodup
    rw [List.nodup_append]
    refine ⟨hp.nd, by simp, fun a ha b hb => ?_⟩
    have e : b = L := by simpa using hb
    rw [e]
    exact fun z => p3 (by rw [← z]; exact ha)
  · rcases List.mem_append.mp q with q | q
    · exact hp.there a q
    · have e : a = L := by simpa using q
      rw [e, p1]; simp
  · have q1 : (c ++ [L])[c']? = some b := q1
    by_cases hc : c' < c.length
    · rw [List.getElem?_append_left hc] at q1
      rw [List.getElem?_append_left (by rw [← hl]; exact hc)] at q2
      exact hp.cell c' b u q1 q2
    · rw [List.getElem?_append_right (by omega)] at q1
      rw [List.getElem?_append_right (by rw [← hl]; omega)] at q2
      rw [← hl] at q2
      cases k : c' - c.length with
      | zero =>
        rw [k] at q1 q2
        simp at q1 q2
        subst q1 q2
        exact ⟨p2, hb, vs, p1, r⟩
      | succ j => rw [k] at q1; simp at q1
  · obtain ⟨q1, q2, q3⟩ := hp.prot p (List.mem_cons_of_mem _ hq)
    refine ⟨q1, q2, fun z => ?_⟩
    rcases List.mem_append.mp z with z | z
    · exact q3 z
    · exact (List.nodup_cons.mp hp.pnd).1 (List.mem_map.mpr ⟨p, hq, by simpa using z⟩)
end
section
variable {X : Cx} {elt tg iter : Expr} {ifs : List Expr} {scope : Scope} {own : List (Str × Nat)} {pos : Pos} {it : Ix} {g : TG} {tgm : Tg} {tt : Tx} {te : Ex}
theorem lc_read (hg : TgOk X.K g tgm (own.map (·.2))) : ∀ σ H Q, tE X.K (eLc it (own.map (·.2)) tgm tt te) σ H Q → tLc (tI X.K it) g (tT X.K tt) (tE X.K te) (own.map (·.2)) σ H Q := by
  intro σ H Q h
  obtain ⟨ρ, m, F, as, e, m', env, hp, hf, q⟩ := h
  obtain ⟨⟨xs, m1⟩, h1, hf⟩ := bind2 hf
  obtain ⟨⟨ds, m2⟩, h2, hf⟩ := bind2 hf
  · cases hf
    refine ⟨ρ, m, F, as, xs, m1, env, hp, h1, fun J H1 F1 as1 x1 hp1 wk L hL => ?_⟩
    have z : ds.length ≤ sizeLine := Nat.le_trans (lcLoop_len h2) wk.1
    refine lc_main hg (env.ext x1) hp1 wk h2 z hL fun H2 F2 c2 vs2 s2 p2 r2 hp2 => ?_
    obtain ⟨s3, hp3, r3⟩ := made_frz hp2 r2 z
    exact q _ _ _ ⟨c2, as1.g⟩ (x1.trans ⟨s2.trans s3, p2, rfl⟩) hp3 (.d r3)
theorem lcO_read (hg : TgOk X.K g tgm (own.map (·.2))) : ∀ σ H Q, tE X.K (eLcO it (own.map (·.2)) tgm tt te) σ H Q → tLc (tI X.K it) g (tT X.K tt) (tE X.K te) (own.map (·.2)) σ H Q := by
  intro σ H Q h
  obtain ⟨ρ, m, F, as, e, m', env, hp, hf, q⟩ := h
  obtain ⟨⟨xs, m1⟩, h1, hf⟩ := bind2 hf
  obtain ⟨⟨ds, m2⟩, h2, hf⟩ := bind2 hf
  · cases hf
    refine ⟨ρ, m, F, as, xs, m1, env, hp, h1, fun J H1 F1 as1 x1 hp1 wk L hL => ?_⟩
    have z : ds.length ≤ sizeLine := Nat.le_trans (lcLoop_len h2) wk.1
    refine lc_main hg (env.ext x1) hp1 wk h2 z hL fun H2 F2 c2 vs2 s2 p2 r2 hp2 => ?_
    refine q _ _ _ ⟨c2 ++ [L], as1.g⟩ (x1.trans ⟨s2, p2.trans (pre_snoc _ _), rfl⟩) (made_own hp2 r2 z) (.own ?_)
    have e := hp2.len
    show (c2 ++ [L])[m2.length]? = some L
    rw [← e]
    simp
end

/-! ### statements -/
inductive Fl where
  | nx | bk | ct | rt (e : E)
abbrev Sx := Rho → Store → Option (Fl × Rho × Store)
def EndOk (K : PySem.W.Frag) (F : Hp) (as : Cs) (D : Ends) (fl : Fl) (ρ' : Rho) (m' : Store) : Prop := match fl with
  | .nx => ∀ σ' H' F' as', Ext F F' as as' → EnvOk K F' as' σ' ρ' → HeapOk K H' F' as' m' → D.nx σ' H'
  | .bk => ∀ σ' H' F' as', Ext F F' as as' → EnvOk K F' as' σ' ρ' → HeapOk K H' F' as' m' → D.bk σ' H'
  | .ct => ∀ σ' H' F' as', Ext F F' as as' → EnvOk K F' as' σ' ρ' → HeapOk K H' F' as' m' → D.ct σ' H'
  | .rt e => ∀ v H' F' as', Ext F F' as as' → RepE K F' as' v e → HeapOk K H' F' as' m' → D.rt v H'
def tS (K : PySem.W.Frag) (f : Sx) : TS := fun D σ H => ∃ ρ m F as fl ρ' m', EnvOk K F as σ ρ ∧ HeapOk K H F as m ∧ f ρ m = some (fl, ρ', m') ∧ EndOk K F as D fl ρ' m'
theorem EndOk.ext {K : PySem.W.Frag} {F F' : Hp} {as as' : Cs} {D : Ends} {fl : Fl} {ρ' : Rho} {m' : Store} (x : Ext F F' as as') (h : EndOk K F as D fl ρ' m') : EndOk K F' as' D fl ρ' m' := by
  cases fl with
  | nx => exact fun σ' H' F2 as2 x2 => h σ' H' F2 as2 (x.trans x2)
  | bk => exact fun σ' H' F2 as2 x2 => h σ' H' F2 as2 (x.trans x2)
  | ct => exact fun σ' H' F2 as2 x2 => h σ' H' F2 as2 (x.trans x2)
  | rt e => exact fun v H' F2 as2 x2 => h v H' F2 as2 (x.trans x2)
def sNil : Sx := fun ρ m => some (.nx, ρ, m)
def sSeq (f g : Sx) : Sx := fun ρ m => (f ρ m).bind fun r => match r.1 with
  | .nx => g r.2.1 r.2.2
  | _ => some r
def sIf (t : Tx) (f g : Sx) : Sx := fun ρ m => (t ρ m).bind fun b => if b.1 = true then f ρ b.2 else g ρ b.2
def sAsg (f : Ex) (tg : Tg) : Sx := fun ρ m => (f ρ m).bind fun p => (tg p.1 ρ).bind fun ρ' => some (.nx, ρ', p.2)
def sSet (i : Nat) (f : Ex) : Sx := sAsg f (tgName i)
def sExp (f : Ex) : Sx := fun ρ m => (f ρ m).bind fun p => some (.nx, ρ, p.2)
def sRet (f : Ex) : Sx := fun ρ m => (f ρ m).bind fun p => some (.rt p.1, ρ, p.2)
def sRetN : Sx := fun ρ m => some (.rt (.d .non), ρ, m)
def sBrk : Sx := fun ρ m => some (.bk, ρ, m)
def sCnt : Sx := fun ρ m => some (.ct, ρ, m)
def forL (tg : Tg) (body : Sx) : List D → Sx
  | [], ρ, m => some (.nx, ρ, m)
  | x :: xs, ρ, m => (tg (.d x) ρ).bind fun ρ1 => (body ρ1 m).bind fun r => match r.1 with
    | .nx => forL tg body xs r.2.1 r.2.2
    | .ct => forL tg body xs r.2.1 r.2.2
    | .bk => some (.nx, r.2.1, r.2.2)
    | .rt e => some (.rt e, r.2.1, r.2.2)
def sFor (it : Ix) (tg : Tg) (body : Sx) : Sx := fun ρ m => (it ρ m).bind fun p => forL tg body p.1 ρ p.2
def whileF (t : Tx) (body : Sx) : Nat → Sx
  | 0, _, _ => none
  | n + 1, ρ, m => (t ρ m).bind fun b => if b.1 = true then (body ρ b.2).bind fun r => match r.1 with
    | .nx => whileF t body n r.2.1 r.2.2
    | .ct => whileF t body n r.2.1 r.2.2
    | .bk => some (.nx, r.2.1, r.2.2)
    | .rt e => some (.rt e, r.2.1, r.2.2)
    else some (.nx, ρ, b.2)
/-- a while that ends within some number of turns -/
def sWhile (N : Nat) (t : Tx) (body : Sx) : Sx := whileF t body N
section
variable {X : Cx} {st : Stmt} {rest : List Stmt} {f g : Sx} {t t' : TS} {e c : Expr} {fe : Ex} {ft : Tx} {pos pos' : Pos}
theorem PS_imp (h : PS X st t) (i : ∀ D σ H, t' D σ H → t D σ H) : PS X st t' := ⟨fun pins s σ H D I q => h.run pins s σ H D I (i D σ H q)⟩
theorem PSs_imp (h : PSs X rest t) (i : ∀ D σ H, t' D σ H → t D σ H) : PSs X rest t' := ⟨fun pins s σ H D I q => h.run pins s σ H D I (i D σ H q)⟩
theorem r_nil : PSs X [] (tS X.K sNil) := PSs_imp pss_nil fun D σ H h => by
  obtain ⟨ρ, m, F, as, fl, ρ', m', env, hp, hf, q⟩ := h
  cases hf
  exact q σ H F as .refl env hp
theorem seq_read : ∀ D σ H, tS X.K (sSeq f g) D σ H → tSeq (tS X.K f) (tS X.K g) D σ H := by
  intro D σ H h
  obtain ⟨ρ, m, F, as, fl, ρ', m', env, hp, hf, q⟩ := h
  obtain ⟨⟨fl1, ρ1, m1⟩, h1, hf⟩ := bind2 hf
  refine ⟨ρ, m, F, as, fl1, ρ1, m1, env, hp, h1, ?_⟩
  cases fl1 with
  | nx => exact fun σ' H' F' as' x env' hp' => ⟨ρ1, m1, F', as', fl, ρ', m', env', hp', hf, q.ext x⟩
  | bk => cases hf; exact q
  | ct => cases hf; exact q
  | rt e => cases hf; exact q
theorem r_cons (h1 : PS X st (tS X.K f)) (h2 : PSs X rest (tS X.K g)) : PSs X (st :: rest) (tS X.K (sSeq f g)) := PSs_imp (pss_cons h1 h2) seq_read
theorem r_one (h1 : PS X st (tS X.K f)) : PSs X [st] (tS X.K f) := pss_one h1
theorem r_ifS {a b : List Stmt} (hc : PT X c (tT X.K ft)) (ha : PSs X a (tS X.K f)) (hb : PSs X b (tS X.K g)) : PS X (.If c a b pos) (tS X.K (sIf ft f g)) := PS_imp (ps_if hc ha hb) fun D σ H h => by
  obtain ⟨ρ, m, F, as, fl, ρ', m', env, hp, hf, q⟩ := h
  obtain ⟨⟨b, m1⟩, h1, hf⟩ := bind2 hf
  refine tstep env hp h1 fun H1 F1 as1 x1 hp1 env1 => ?_
  cases b with
  | true => exact ⟨ρ, m1, F1, as1, fl, ρ', m', env1, hp1, hf, q.ext x1⟩
  | false => exact ⟨ρ, m1, F1, as1, fl, ρ', m', env1, hp1, hf, q.ext x1⟩
theorem asg_read {gt : TG} {tg : Tg} {vs : List Nat} (hg : TgOk X.K gt tg vs) : ∀ D σ H, tS X.K (sAsg fe tg) D σ H → tAsg (tE X.K fe) gt D σ H := by
  intro D σ H h
  obtain ⟨ρ, m, F, as, fl, ρ', m', env, hp, hf, q⟩ := h
  obtain ⟨⟨e, m1⟩, h1, hf⟩ := bind2 hf
  obtain ⟨ρ1, h2, hf⟩ := bind2 hf
  cases hf
  exact estep env hp h1 fun v H1 F1 as1 x1 hp1 env1 r1 => hg.run env1 hp1 r1 h2 fun σ' env2 _ _ => q σ' H1 F1 as1 x1 env2 hp1
theorem r_expr (he : PE X e (tE X.K fe)) (hs : swapsWith e none pos.line X.env = pure false := by rfl) : PS X (.Expr e pos) (tS X.K (sExp fe)) := PS_imp (ps_expr he hs) fun D σ H h => by
  obtain ⟨ρ, m, F, as, fl, ρ', m', env, hp, hf, q⟩ := h
  obtain ⟨⟨e, m1⟩, h1, hf⟩ := bind2 hf
  cases hf
  exact estep env hp h1 fun v H1 F1 as1 x1 hp1 env1 r1 => q σ H1 F1 as1 x1 env1 hp1
theorem r_ret (he : PE X e (tE X.K fe)) : PS X (.Return (some e) pos) (tS X.K (sRet fe)) := PS_imp (ps_ret he) fun D σ H h => by
  obtain ⟨ρ, m, F, as, fl, ρ', m', env, hp, hf, q⟩ := h
  obtain ⟨⟨e, m1⟩, h1, hf⟩ := bind2 hf
  cases hf
  exact estep env hp h1 fun v H1 F1 as1 x1 hp1 env1 r1 => q v H1 F1 as1 x1 r1 hp1
theorem r_retN : PS X (.Return none pos) (tS X.K sRetN) := PS_imp ps_retN fun D σ H h => by
  obtain ⟨ρ, m, F, as, fl, ρ', m', env, hp, hf, q⟩ := h
  cases hf
  exact q .non H F as .refl (.d .non) hp
theorem r_brk : PS X (.Break pos) (tS X.K sBrk) := PS_imp ps_break fun D σ H h => by
  obtain ⟨ρ, m, F, as, fl, ρ', m', env, hp, hf, q⟩ := h
  cases hf
  exact q σ H F as .refl env hp
theorem r_cnt : PS X (.Continue pos) (tS X.K sCnt) := PS_imp ps_continue fun D σ H h => by
  obtain ⟨ρ, m, F, as, fl, ρ', m', env, hp, hf, q⟩ := h
  cases hf
  exact q σ H F as .refl env hp
theorem for_read {it : Ix} {gt : TG} {tg : Tg} {vs : List Nat} {body : Sx} (hg : TgOk X.K gt tg vs) : ∀ D σ H, tS X.K (sFor it tg body) D σ H → tFor (tI X.K it) gt (tS X.K body) D σ H := by
  intro D σ H h
  obtain ⟨ρ, m, F, as, fl, ρ', m', env, hp, hf, q⟩ := h
  obtain ⟨⟨xs, m1⟩, h1, hf⟩ := bind2 hf
  refine ⟨ρ, m, F, as, xs, m1, env, hp, h1, fun J H1 F1 as1 x1 hp1 wk => ?_⟩
  have q1 := q.ext x1
  refine ⟨fun i n σ2 H2 => n = xs.length - i ∧ i ≤ xs.length ∧ ∃ F2 as2 ρ2 m2, Ext F1 F2 as1 as2 ∧ EnvOk X.K F2 as2 σ2 ρ2 ∧ HeapOk X.K H2 F2 as2 m2 ∧ forL tg body (xs.drop i) ρ2 m2 = some (fl, ρ', m'),
    ⟨_, rfl, Nat.zero_le _, F1, as1, ρ, m1, .refl, env.ext x1, hp1, hf⟩, ?_⟩
  rintro i n σ2 H2 ⟨rfl, hi, F2, as2, ρ2, m2, x2, env2, hp2, hl⟩
  obtain ⟨w1, w2⟩ := wk.2 F2 as2 m2 H2 x2.1 hp2 i
  by_cases hlt : i < xs.length
  · obtain ⟨hgo, hy⟩ := w2 xs[i] (List.getElem?_eq_getElem hlt)
    refine .inr ⟨hgo, fun σ3 H3 => ∃ F3 as3 ρ3 m3, Ext F1 F3 as1 as3 ∧ EnvOk X.K F3 as3 σ3 ρ3 ∧ HeapOk X.K H3 F3 as3 m3 ∧ forL tg body (xs.drop (i + 1)) ρ3 m3 = some (fl, ρ', m'),
      fun σ3 H3 h => ⟨_, by omega, rfl, hlt, h⟩, fun x H' hx => ?_⟩
    obtain ⟨F3, gr, rx⟩ := hy x H' hx
    have hp3 := hp2.grow gr
    have x3 := hp2.ext gr
    rw [List.drop_eq_getElem_cons hlt] at hl
    obtain ⟨ρ3, h3, hl⟩ := bind2 hl
    obtain ⟨⟨fl4, ρ4, m4⟩, h4, hl⟩ := bind2 hl
    refine hg.run (env2.ext x3) hp3 (.d rx) h3 fun σ' env4 _ _ => ⟨ρ3, m2, F3, as2, fl4, ρ4, m4, env4, hp3, h4, ?_⟩
    have x23 := x2.trans x3
    cases fl4 with
    | nx => exact fun σ5 H5 F5 as5 x5 env5 hp5 => ⟨F5, as5, ρ4, m4, x23.trans x5, env5, hp5, hl⟩
    | ct => exact fun σ5 H5 F5 as5 x5 env5 hp5 => ⟨F5, as5, ρ4, m4, x23.trans x5, env5, hp5, hl⟩
    | bk =>
      cases hl
      exact fun σ5 H5 F5 as5 x5 env5 hp5 => q1 σ5 H5 F5 as5 (x23.trans x5) env5 hp5
    | rt e =>
      cases hl
      exact fun v H5 F5 as5 x5 r5 hp5 => q1 v H5 F5 as5 (x23.trans x5) r5 hp5
  · have e : i = xs.length := by omega
    subst e
    rw [List.drop_length] at hl
    cases hl
    exact .inl ⟨w1 (Nat.le_refl _), q1 σ2 H2 F2 as2 x2 env2 hp2⟩
theorem while_read {N : Nat} {body : Sx} : ∀ D σ H, tS X.K (sWhile N ft body) D σ H → tWhile (tT X.K ft) (tS X.K body) D σ H := by
  intro D σ H h
  obtain ⟨ρ, m, F, as, fl, ρ', m', env, hp, hf, q⟩ := h
  refine ⟨fun n σ2 H2 => ∃ F2 as2 ρ2 m2, Ext F F2 as as2 ∧ EnvOk X.K F2 as2 σ2 ρ2 ∧ HeapOk X.K H2 F2 as2 m2 ∧ whileF ft body n ρ2 m2 = some (fl, ρ', m'), ⟨N, F, as, ρ, m, .refl, env, hp, hf⟩, ?_⟩
  rintro n σ2 H2 ⟨F2, as2, ρ2, m2, x2, env2, hp2, hl⟩
  cases n with
  | zero => cases hl
  | succ n =>
    obtain ⟨⟨b, m3⟩, h3, hl⟩ := bind2 hl
    refine tstep env2 hp2 h3 fun H3 F3 as3 x3 hp3 env3 => ?_
    have x23 := x2.trans x3
    cases b with
    | false =>
      cases hl
      exact q σ2 H3 F3 as3 x23 env3 hp3
    | true =>
      obtain ⟨⟨fl4, ρ4, m4⟩, h4, hl⟩ := bind2 hl
      refine ⟨fun σ5 H5 => ∃ F5 as5 ρ5 m5, Ext F F5 as as5 ∧ EnvOk X.K F5 as5 σ5 ρ5 ∧ HeapOk X.K H5 F5 as5 m5 ∧ whileF ft body n ρ5 m5 = some (fl, ρ', m'), fun σ5 H5 h => ⟨n, Nat.lt_succ_self n, h⟩, ρ2, m3, F3, as3, fl4, ρ4, m4, env3, hp3, h4, ?_⟩
      cases fl4 with
      | nx => exact fun σ5 H5 F5 as5 x5 env5 hp5 => ⟨F5, as5, ρ4, m4, x23.trans x5, env5, hp5, hl⟩
      | ct => exact fun σ5 H5 F5 as5 x5 env5 hp5 => ⟨F5, as5, ρ4, m4, x23.trans x5, env5, hp5, hl⟩
      | bk =>
        cases hl
        exact fun σ5 H5 F5 as5 x5 env5 hp5 => q σ5 H5 F5 as5 (x23.trans x5) env5 hp5
      | rt e =>
        cases hl
        exact fun v H5 F5 as5 x5 r5 hp5 => q v H5 F5 as5 (x23.trans x5) r5 hp5
end
end PL
/-! PL5: functions, calls, built-ins. -/
namespace PL
open PySem PySem.Spec L2
set_option autoImplicit false

abbrev Fx := List E → Store → Option (E × Store)
/-- a callee's cells are dropped; a list or dict of its own that it hands back is data from now on -/
def fin (n : Nat) (m' : Store) : E → Option (E × Store)
  | .d x => some (.d x, m'.take n)
  | .own c => if c < n then some (.own c, m'.take n) else (look m' (.own c)).map fun d => (.d d, m'.take n)
  | .deal row c t => if c < n then some (.deal row c t, m'.take n) else (m'[c]?).map fun o => (.deal row n t, m'.take n ++ [o])
def fnD (n k : Nat) (body : Sx) : Fx := fun es m => if es.length = n then (body (es.map some ++ List.replicate k none) m).bind fun r => match r.1 with
  | .rt e => fin m.length r.2.2 e
  | .nx => some (.d .non, r.2.2.take m.length)
  | _ => none else none
def spD (K : PySem.W.Frag) (n : Nat) (f : Fx) : Sp := fun vs H Q _ => vs.length = n ∧ ∃ es m F as e m', RepEs K F as vs es ∧ HeapOk K H F as m ∧ f es m = some (e, m') ∧
  ∀ v H' F' as', Ext F F' as as' → HeapOk K H' F' as' m' → RepE K F' as' v e → Q v H'

section
variable {K : PySem.W.Frag} {F F' H H' : Hp} {as as' : Cs} {m m' : Store} {c0 : List Addr} {v : V} {e : E}
theorem HeapOk.take (hp : HeapOk K H F as m) (pc : c0 <+: as.c) : HeapOk K H F ⟨c0, as.g⟩ (m.take c0.length) := by
  obtain ⟨t, et⟩ := pc
  have hl := hp.len
  rw [← et, List.length_append] at hl
  have get : ∀ (i : Nat) (a : Addr), c0[i]? = some a → as.c[i]? = some a := fun i a q => by
    rw [← et, List.getElem?_append_left (List.getElem?_eq_some_iff.mp q).1]; exact q
  have mem : ∀ a ∈ c0, a ∈ as.c := fun a q => by rw [← et]; exact List.mem_append_left _ q
  refine ⟨hp.sub, by show c0.length = _; rw [List.length_take]; omega, ?_, fun a q => hp.there a (mem a q), fun i a o q1 q2 => ?_, fun p hq => ?_, hp.pnd⟩
  · have nd := hp.nd
    rw [← et] at nd
    exact (List.nodup_append.mp nd).1
  · have hi : i < c0.length := (List.getElem?_eq_some_iff.mp q1).1
    rw [List.getElem?_take_of_lt hi] at q2
    exact hp.cell i a o (get i a q1) q2
  · obtain ⟨p1, p2, p3⟩ := hp.prot p hq
    exact ⟨p1, p2, fun z => p3 (mem _ z)⟩
theorem fin_ok (hp : HeapOk K H F as m) (pc : c0 <+: as.c) (r : RepE K F as v e) {e2 : E} {m2 : Store} (h : fin c0.length m e = some (e2, m2)) :
    ∃ F2 c2, Sm F F2 ∧ c0 <+: c2 ∧ HeapOk K H F2 ⟨c2, as.g⟩ m2 ∧ RepE K F2 ⟨c2, as.g⟩ v e2 := by
  have get : ∀ (i : Nat) (a : Addr), i < c0.length → as.c[i]? = some a → c0[i]? = some a := fun i a hi q => by
    obtain ⟨t, et⟩ := pc
    rw [← et, List.getElem?_append_left hi] at q
    exact q
  cases r with
  | d r => cases h; exact ⟨F, c0, Sm.refl F, List.prefix_refl _, hp.take pc, .d r⟩
  | @own a c r =>
    simp only [fin] at h
    split at h
    · rename_i hc
      cases h
      exact ⟨F, c0, Sm.refl F, List.prefix_refl _, hp.take pc, .own (get c a hc r)⟩
    · rename_i hc
      obtain ⟨d, h1, h2⟩ := Option.map_eq_some_iff.mp h
      cases h2
      have hz : frzE m (.own c) = some (d, m.set c (.frz d)) := by
        show (look m (.own c)).bind _ = _
        rw [h1]; rfl
      obtain ⟨F2, x2, hp2, r2⟩ := frzE_ok hp (.own r) hz
      refine ⟨F2, c0, x2.1, List.prefix_refl _, ?_, .d r2⟩
      have q := hp2.take pc
      rw [List.take_set_of_le (by omega)] at q
      exact q
  | @deal a r ca row c t h1 h2 z h3 =>
    simp only [fin] at h
    split at h
    · rename_i hc
      cases h
      exact ⟨F, c0, Sm.refl F, List.prefix_refl _, hp.take pc, .deal h1 h2 z (get c ca hc h3)⟩
    · rename_i hc
      obtain ⟨o, e1, e2⟩ := Option.map_eq_some_iff.mp h
      cases e2
      have ht := hp.take pc
      have hl : c0.length = (m.take c0.length).length := ht.len
      have nin : ca ∉ c0 := fun z => by
        obtain ⟨i, hi, ei⟩ := List.getElem_of_mem z
        have q1 : as.c[i]? = some ca := by
          obtain ⟨t, et⟩ := pc
          rw [← et, List.getElem?_append_left hi, List.getElem?_eq_getElem hi, ei]
        exact hc (by rw [← nd_ix hp.nd q1 h3]; exact hi)
      refine ⟨F, c0 ++ [ca], Sm.refl F, pre_snoc _ _, ⟨ht.sub, by show (c0 ++ [ca]).length = _; rw [List.length_append, List.length_append, ← hl]; rfl, ?_, fun a q => ?_, fun i b u q1 q2 => ?_, fun p hq => ?_, ht.pnd⟩, .deal h1 h2 z ?_⟩
      · show (c0 ++ [ca]).Nodup
        rw [List.nodup_append]
        refine ⟨ht.nd, by simp, fun a ha b hb => ?_⟩
        have e : b = ca := by simpa using hb
        rw [e]
        exact fun z => nin (by rw [← z]; exact ha)
      · rcases List.mem_append.mp q with q | q
        · exact ht.there a q
        · have e : a = ca := by simpa using q
          rw [e]
          exact hp.there ca (List.mem_of_getElem? h3)
      · have q1 : (c0 ++ [ca])[i]? = some b := q1
        by_cases hi : i < c0.length
        · rw [List.getElem?_append_left hi] at q1
          rw [List.getElem?_append_left (by omega)] at q2
          exact ht.cell i b u q1 q2
        · rw [List.getElem?_append_right (by omega)] at q1
          rw [List.getElem?_append_right (by omega), ← hl] at q2
          cases k : i - c0.length with
          | zero =>
            rw [k] at q1 q2
            simp at q1 q2
            subst q1 q2
            exact hp.cell c ca o h3 e1
          | succ j => rw [k] at q1; simp at q1
      · obtain ⟨p1, p2, p3⟩ := hp.prot p hq
        refine ⟨p1, p2, fun z => ?_⟩
        rcases List.mem_append.mp z with z | z
        · exact (ht.prot p hq).2.2 z
        · have e : p.1 = ca := by simpa using z
          exact p3 (by rw [e]; exact List.mem_of_getElem? h3)
      · show (c0 ++ [ca])[c0.length]? = some ca
        simp
end

/-! ### defs -/
theorem RepEs.length {K : PySem.W.Frag} {F : Hp} {as : Cs} : ∀ {vs : List V} {es : List E}, RepEs K F as vs es → vs.length = es.length
  | _, _, .nil => rfl
  | _, _, .cons _ b => congrArg (· + 1) (RepEs.length b)
theorem RepEs.get {K : PySem.W.Frag} {F : Hp} {as : Cs} : ∀ {vs : List V} {es : List E} {i : Nat} {e : E}, RepEs K F as vs es → es[i]? = some e → ∃ v, vs[i]? = some v ∧ RepE K F as v e
  | _, _, _, _, .nil, h => by simp at h
  | _, _, 0, _, .cons a _, h => by simp at h; subst h; exact ⟨_, rfl, a⟩
  | _, _, i + 1, _, .cons _ b, h => by
    obtain ⟨v, h1, h2⟩ := RepEs.get (i := i) b (by simpa using h)
    exact ⟨v, by simpa using h1, h2⟩
theorem env_start {K : PySem.W.Frag} {F : Hp} {as : Cs} {vs : List V} {es : List E} {N : List Str} {k : Nat} (r : RepEs K F as vs es) (hN : N.length = es.length + k) : EnvOk K F as (start N vs) (es.map some ++ List.replicate k none) := by
  have hl := r.length
  refine ⟨?_, fun i e h => ?_⟩
  · show (vs.map some ++ List.replicate (N.length - vs.length) none).length = _
    rw [List.length_append, List.length_append, List.length_map, List.length_map, List.length_replicate, List.length_replicate]
    omega
  · by_cases hi : i < es.length
    · rw [List.getElem?_append_left (by rw [List.length_map]; exact hi), List.getElem?_map] at h
      obtain ⟨e', h1, h2⟩ := Option.map_eq_some_iff.mp h
      cases h2
      obtain ⟨v, h3, h4⟩ := r.get h1
      refine ⟨v, ?_, h4⟩
      show (vs.map some ++ List.replicate (N.length - vs.length) none)[i]? = _
      rw [List.getElem?_append_left (by rw [List.length_map]; omega), List.getElem?_map, h3]
      rfl
    · rw [List.getElem?_append_right (by rw [List.length_map]; omega), List.getElem?_replicate] at h
      split at h <;> cases h
section
variable {P : Program} {w : World} {K : PySem.W.Frag} {mg : Str → Option Value} {base : Heap}
theorem fn_ok {x qual : Str} {st : Stmt} {f : Addr} {fd : FuncData} {N ps : List Str} {lev n k : Nat} {body : Sx} (F : Fun K x qual st f fd) (S : FnScope N ps (defScope st)) (hn : ps.length = n) (hN : N.length = n + k)
    (hb : ∀ (cdv : Value) (A : Around) (outer : List PySem.Env) (s : Shared) (H : Hp) (E : XK), Room lev (A.deeper (PyProof.Rows.envOfC qual (defScope st) s.heap.objs.size f cdv)) →
      PSs (cxOf CX0 P w K mg base N qual (defScope st) f cdv A outer s H E).nox (defBody st) (tS K body)) :
    FnOk P w K mg base CX0 (lev + 1) f fd ps (spD K n (fnD n k body)) := by
  refine F.ok S (fun vs H Q E h => by rw [hn]; exact h.1) fun cdv A outer s H vs Q E hr h => ⟨_, hb cdv A outer s H E hr, ?_⟩
  obtain ⟨hl, es, m, F0, as, e, m', r, hp, hf, q⟩ := h
  unfold fnD at hf
  split at hf
  · rename_i hes
    obtain ⟨⟨fl, ρ', m1⟩, h1, hf⟩ := bind2 hf
    refine ⟨_, m, F0, as, fl, ρ', m1, env_start r (by rw [hN, hes]), hp, h1, ?_⟩
    have hml : as.c.length = m.length := hp.len
    cases fl with
    | nx =>
      cases hf
      intro σ' H' F' as' x env' hp'
      have q2 := hp'.take x.2.1
      rw [hml] at q2
      obtain ⟨c', g'⟩ := as'
      have eg : g' = as.g := x.2.2
      subst eg
      exact q .non H' F' as ⟨x.1, List.prefix_refl _, rfl⟩ q2 (.d .non)
    | rt e1 =>
      intro v H' F' as' x r' hp'
      have hf : fin m.length m1 e1 = some (e, m') := hf
      rw [← hml] at hf
      obtain ⟨F2, c2, s2, p2, hp2, r2⟩ := fin_ok hp' x.2.1 r' hf
      exact q v H' F2 ⟨c2, as'.g⟩ ⟨x.1.trans s2, p2, x.2.2⟩ hp2 r2
    | bk => cases hf
    | ct => cases hf
  · cases hf
/-- a def of the module at its name -/
structure Fn (P : Program) (w : World) (K : PySem.W.Frag) (mg : Str → Option Value) (base : Heap) (lev : Nat) (x : Str) (n : Nat) (f : Fx) : Prop where
  ex : ∃ (a : Addr) (fd : FuncData) (ps : List Str), mg x = some (.ref a) ∧ PySem.W.keepIn K (.ref a) = true ∧ Binds K fd ps [] ∧ FnOk P w K mg base CX0 lev a fd ps (spD K n f)
theorem Fn.mono {lev lev' n : Nat} {x : Str} {f : Fx} (h : Fn P w K mg base lev x n f) (l : lev ≤ lev') : Fn P w K mg base lev' x n f := by
  obtain ⟨a, fd, ps, h1, h2, h3, h4⟩ := h.ex
  exact ⟨a, fd, ps, h1, h2, h3, h4.mono l⟩
/-- what the top has of a def -/
structure At (K : PySem.W.Frag) (mg : Str → Option Value) (x : Str) (ps : List Str) (st : Stmt) (a : Addr) (fd : FuncData) : Prop where
  F : Fun K x x st a fd
  g : mg x = some (.ref a)
  b : Binds K fd ps []
theorem fn_at {x : Str} {st : Stmt} {a : Addr} {fd : FuncData} {N ps : List Str} {lev n k : Nat} {body : Sx} (T : At K mg x ps st a fd) (S : FnScope N ps (defScope st)) (hn : ps.length = n) (hN : N.length = n + k)
    (hb : ∀ (cdv : Value) (A : Around) (outer : List PySem.Env) (s : Shared) (H : Hp) (E : XK), Room lev (A.deeper (PyProof.Rows.envOfC x (defScope st) s.heap.objs.size a cdv)) →
      PSs (cxOf CX0 P w K mg base N x (defScope st) a cdv A outer s H E).nox (defBody st) (tS K body)) : Fn P w K mg base (lev + 1) x n (fnD n k body) :=
  ⟨a, fd, ps, T.g, T.F.kp, T.b, fn_ok T.F S hn hN hb⟩
/-- nothing is promised -/
def fNone : Fx := fun _ _ => none
theorem fn_none {x : Str} {st : Stmt} {a : Addr} {fd : FuncData} {ps : List Str} {lev n : Nat} (T : At K mg x ps st a fd) : Fn P w K mg base lev x n fNone :=
  ⟨a, fd, ps, T.g, T.F.kp, T.b, ⟨fun vs H Q E h => by (obtain ⟨_, es, m, F, as, e, m', _, _, h, _⟩ := h; cases h), fun A outer s H args us vs Q E _ _ _ _ h => by (obtain ⟨_, es, m, F, as, e, m', _, _, h, _⟩ := h; cases h)⟩⟩
end
def eCall (f : Fx) (g : Ax) : Ex := fun ρ m => (g ρ m).bind fun p => f p.1 p.2
section
variable {X : Cx} {lev n : Nat} {x : Str} {f : Fx} {g : Ax} {e : Expr} {es : List Expr} {p pos : Pos}
theorem r_call (G : Fn X.prog X.w X.K X.mg X.base lev x n f) (hr : Room lev X.A) (hg : Gl X x) (hn : ∀ ρ m r, g ρ m = some r → r.1.length = n) (ha : PA X (e :: es) (tA X.K g)) (hdb : (x == ("__debug__" : Str)) = false := by decide) (he : starEach (e :: es) X.env = (false, eval e X.env) :: starEach es X.env := by rfl)
    (hpl : (backTo pos (starEach es X.env)).any (·.1) = false := by rfl) : PE X (.Call (.Name x p) (e :: es) [] pos) (tE X.K (eCall f g)) := by
  obtain ⟨a, fd, ps, h1, h2, h3, h4⟩ := G.ex
  refine PE_imp (pe_call h4 hr hg h1 h2 h3 .nil pass0 ha hdb he hpl) fun σ H Q h => ?_
  obtain ⟨ρ, m, F, as, e, m', env, hp, hf, q⟩ := h
  obtain ⟨⟨es1, m1⟩, q1, hf⟩ := bind2 hf
  refine ⟨ρ, m, F, as, es1, m1, env, hp, q1, fun vs H1 F1 as1 x1 hp1 r1 => ?_⟩
  show spD X.K n f (vs ++ []) H1 Q E0
  rw [List.append_nil]
  exact ⟨by rw [r1.length]; exact hn _ _ _ q1, es1, m1, F1, as1, e, m', r1, hp1, hf, fun v H' F' as' x2 hp2 r2 => q v H' F' as' (x1.trans x2) hp2 r2⟩
theorem aNil_len : ∀ ρ m r, aNil ρ m = some r → r.1.length = 0 := fun ρ m r h => by cases h; rfl
theorem aCons_len {n : Nat} {f : Ex} {g : Ax} (h : ∀ ρ m r, g ρ m = some r → r.1.length = n) : ∀ ρ m r, aCons f g ρ m = some r → r.1.length = n + 1 := fun ρ m r q => by
  obtain ⟨p, h1, q⟩ := bind2 q
  obtain ⟨s, h2, q⟩ := bind2 q
  cases q
  exact congrArg (· + 1) (h _ _ _ h2)
end

/-! ### built-ins of one value -/
def D1Ok (K : PySem.W.Frag) (r : List V → Hp → VK → Prop) (op : D → Option D) : Prop := ∀ x H F dx d Q, FSub F H → RepL K H F x dx → op dx = some d →
  (∀ v H' F', Grow H F H' F' → Rep K F' v d → Q v H') → r [x] H Q
def eUn (op : D → Option D) (f : Ex) : Ex := fun ρ m => (f ρ m).bind fun p => (look p.2 p.1).bind fun d => (op d).bind fun r => some (.d r, p.2)
def eBi (op : D → D → Option D) (f g : Ex) : Ex := eBin (g2 op) f g
section
variable {X : Cx} {x : Str} {id T : String} {r : List V → Hp → VK → Prop} {op : D → Option D} {op2 : D → D → Option D} {e e2 : Expr} {f f2 : Ex} {p pos : Pos}
theorem un_read {K : PySem.W.Frag} (hd : D1Ok K r op) : ∀ σ H Q, tE K (eUn op f) σ H Q → tCB r (tCons (tE K f) tNil) σ H Q := by
  intro σ H Q h
  obtain ⟨ρ, m, F, as, e, m', env, hp, hf, q⟩ := h
  obtain ⟨⟨e1, m1⟩, h1, hf⟩ := bind2 hf
  obtain ⟨d, h2, hf⟩ := bind2 hf
  obtain ⟨d', h3, hf⟩ := bind2 hf
  cases hf
  refine estep env hp h1 fun v H1 F1 as1 x1 hp1 env1 r1 => ?_
  exact hd v H1 F1 d d' Q hp1.sub (look_rep hp1 r1 h2) h3 fun w H' F' g rw' => q w H' F' as1 (x1.trans (hp1.ext g)) (hp1.grow g) (.d rw')
theorem r_b1 (hc : CallR X (.builtin id) r) (hd : D1Ok X.K r op) (hg : Gl X x) (hm : X.mg x = none) (hv : bootBuiltins x = some (.builtin id)) (he : PE X e (tE X.K f)) (hn : x ≠ "__name__" := by decide) (hdb : (x == ("__debug__" : Str)) = false := by decide)
    (hs : starEach [e] X.env = (false, eval e X.env) :: starEach [] X.env := by rfl) (hpl : (backTo pos (starEach [] X.env)).any (·.1) = false := by rfl) : PE X (.Call (.Name x p) [e] [] pos) (tE X.K (eUn op f)) :=
  PE_imp (pe_callB hc hg hm hv (pa_cons he pa_nil hs) hn hdb hs hpl) (un_read hd)
theorem r_t1 (hc : CallR X (.type T) r) (hd : D1Ok X.K r op) (hg : Gl X x) (hm : X.mg x = none) (hv : bootBuiltins x = some (.type T)) (he : PE X e (tE X.K f)) (hn : x ≠ "__name__" := by decide) (hdb : (x == ("__debug__" : Str)) = false := by decide)
    (hs : starEach [e] X.env = (false, eval e X.env) :: starEach [] X.env := by rfl) (hpl : (backTo pos (starEach [] X.env)).any (·.1) = false := by rfl) : PE X (.Call (.Name x p) [e] [] pos) (tE X.K (eUn op f)) :=
  PE_imp (pe_callTy hc hg hm hv (pa_cons he pa_nil hs) hn hdb hs hpl) (un_read hd)
theorem bi_read {K : PySem.W.Frag} (hd : D2Ok K (fun x y => r [x, y]) op2) : ∀ σ H Q, tE K (eBi op2 f f2) σ H Q → tCB r (tCons (tE K f) (tCons (tE K f2) tNil)) σ H Q := by
  intro σ H Q h
  obtain ⟨ρ, m, F, as, e, m', env, hp, hf, q⟩ := h
  obtain ⟨⟨e1, m1⟩, h1, hf⟩ := bind2 hf
  obtain ⟨⟨e2, m2⟩, h2, hf⟩ := bind2 hf
  refine estep env hp h1 fun v H1 F1 as1 x1 hp1 env1 r1 => estep env1 hp1 h2 fun w H2 F2 as2 x2 hp2 env2 r2 => ?_
  exact hd.r2 v w H2 F2 as2 m2 e1 e2 e m' Q hp2 (r1.ext x2) r2 hf fun v H' F' as' x3 hp3 r3 => q v H' F' as' (x1.trans (x2.trans x3)) hp3 r3
theorem r_b2 (hc : CallR X (.builtin id) r) (hd : D2Ok X.K (fun x y => r [x, y]) op2) (hg : Gl X x) (hm : X.mg x = none) (hv : bootBuiltins x = some (.builtin id)) (he : PE X e (tE X.K f)) (he2 : PE X e2 (tE X.K f2)) (hn : x ≠ "__name__" := by decide) (hdb : (x == ("__debug__" : Str)) = false := by decide)
    (hs : starEach [e, e2] X.env = (false, eval e X.env) :: starEach [e2] X.env := by rfl) (hs2 : starEach [e2] X.env = (false, eval e2 X.env) :: starEach [] X.env := by rfl) (hpl : (backTo pos (starEach [e2] X.env)).any (·.1) = false := by rfl) : PE X (.Call (.Name x p) [e, e2] [] pos) (tE X.K (eBi op2 f f2)) :=
  PE_imp (pe_callB hc hg hm hv (pa_cons he (pa_cons he2 pa_nil hs2) hs) hn hdb hs hpl) (bi_read hd)
/-- -n -/
def opNeg : D → Option D
  | .int i => some (.int (-i))
  | _ => none
theorem r_neg {a : Expr} {fa : Ex} (ha : PE X a (tE X.K fa)) : PE X (.UnaryOp .USub a pos) (tE X.K (eUn opNeg fa)) := PE_imp (pe_un un_neg ha) fun σ H Q h => by
  obtain ⟨ρ, m, F, as, e, m', env, hp, hf, q⟩ := h
  obtain ⟨⟨e1, m1⟩, h1, hf⟩ := bind2 hf
  obtain ⟨d, h2, hf⟩ := bind2 hf
  obtain ⟨d', h3, hf⟩ := bind2 hf
  cases hf
  refine estep env hp h1 fun v H1 F1 as1 x1 hp1 env1 r1 => ?_
  unfold opNeg at h3
  split at h3
  · cases h3
    exact ⟨_, (look_rep hp1 r1 h2).int, q _ H1 F1 as1 x1 hp1 (.d .int)⟩
  · cases h3
end
/-! #### len -/
def opLen : D → Option D
  | .lst xs => some (.int xs.length)
  | .tup xs => some (.int xs.length)
  | .scr xs => some (.int xs.length)
  | .dic xs => some (.int xs.length)
  | .str x => if x.length ≤ big then some (.int x.length) else none
  | _ => none
theorem KReps.length {K : PySem.W.Frag} {F : Hp} : ∀ {vs : List (Key × V)} {ds : List (Key × D)}, KReps K F vs ds → vs.length = ds.length
  | _, _, .nil => rfl
  | _, _, .cons _ b => congrArg (· + 1) (KReps.length b)
section
variable {X : Cx}
theorem call_lenR : CallR X (.builtin "len") (fun xs H Q => ∃ a kvs, xs = [V.ref a] ∧ Rd H a (.dK kvs) ∧ Q (.int kvs.length) H) := by
  intro pins s σ H xs us Q I r h
  obtain ⟨a, kvs, rfl, ha, q⟩ := h
  obtain ⟨u, rfl, ru⟩ := vals1 r
  cases ru
  exact d_len I ha fun t s' I' => ⟨.int kvs.length, H, I', ⟨t, rfl⟩, q⟩
def rLenA (K : PySem.W.Frag) : List V → Hp → VK → Prop := fun xs H Q => (∃ p ys, xs = [.ref p] ∧ (SqL K H p ys ∨ SqT K H p ys) ∧ Q (.int ys.length) H) ∨ (∃ z : Str, xs = [.str z] ∧ z.length ≤ sizeLine ∧ Q (.int z.length) H) ∨ ∃ a kvs, xs = [V.ref a] ∧ Rd H a (.dK kvs) ∧ Q (.int kvs.length) H
theorem call_lenA : CallR X (.builtin "len") (rLenA X.K) := call_len_seq.or (call_len_str.or call_lenR)
end
theorem d_len1 {K : PySem.W.Frag} : D1Ok K (rLenA K) opLen := by
  intro x H F dx d Q s rx hd q
  unfold opLen at hd
  split at hd
  · cases hd
    obtain ⟨a, vs, rfl, h1, z1, r1⟩ := rx.list s
    exact .inl ⟨a, vs, rfl, .inl (.of h1), by rw [r1.length]; exact q _ H F (.refl s) .int⟩
  · cases hd
    obtain ⟨a, vs, rfl, f1, h1, z1, r1⟩ := rx.tup s
    exact .inl ⟨a, vs, rfl, .inr (.of h1), by rw [r1.length]; exact q _ H F (.refl s) .int⟩
  · cases hd
    obtain ⟨a, rfl, h1⟩ := rx.scr s
    exact .inl ⟨a, _, rfl, .inl h1, by rw [List.length_map]; exact q _ H F (.refl s) .int⟩
  · cases hd
    obtain ⟨a, vs, rfl, h1, r1⟩ := rx.dict s
    exact .inr (.inr ⟨a, vs, rfl, h1, by rw [r1.length]; exact q _ H F (.refl s) .int⟩)
  · split at hd
    · rename_i z
      cases hd
      exact .inr (.inl ⟨_, by rw [rx.str], big_le z, q _ H F (.refl s) .int⟩)
    · cases hd
  · cases hd
/-! #### ints in a list -/
def intsOf : List D → Option (List Int)
  | [] => some []
  | .int i :: r => (intsOf r).map (i :: ·)
  | _ => none
theorem intsOf_eq : ∀ {ds : List D} {ns : List Int}, intsOf ds = some ns → ds = ns.map .int
  | [], _, h => by cases h; rfl
  | d :: r, ns, h => by
    cases d with
    | int i =>
      obtain ⟨ms, h1, rfl⟩ := Option.map_eq_some_iff.mp h
      rw [intsOf_eq h1]
      rfl
    | _ => cases h
theorem intsOf_map : ∀ ns : List Int, intsOf (ns.map .int) = some ns
  | [] => rfl
  | n :: ns => by
    show (intsOf (ns.map .int)).map (n :: ·) = _
    rw [intsOf_map ns]; rfl
def maxI : List Int → Option Int
  | [] => none
  | x :: xs => some (xs.foldl (fun a b => if a < b then b else a) x)
def minI : List Int → Option Int
  | [] => none
  | x :: xs => some (xs.foldl (fun a b => if b < a then b else a) x)
theorem foldmax : ∀ (xs : List Int) (x : Int), (xs.foldl (fun a b => if a < b then b else a) x = x ∨ xs.foldl (fun a b => if a < b then b else a) x ∈ xs) ∧ x ≤ xs.foldl (fun a b => if a < b then b else a) x ∧ ∀ y ∈ xs, y ≤ xs.foldl (fun a b => if a < b then b else a) x
  | [], x => ⟨.inl rfl, Int.le_refl _, fun y h => nomatch h⟩
  | b :: xs, x => by
    obtain ⟨h1, h2, h3⟩ := foldmax xs (if x < b then b else x)
    rw [List.foldl_cons]
    refine ⟨?_, ?_, fun y hy => ?_⟩
    · rcases h1 with h1 | h1
      · rw [h1]
        by_cases e : x < b
        · rw [if_pos e]; exact .inr List.mem_cons_self
        · rw [if_neg e]; exact .inl rfl
      · exact .inr (List.mem_cons_of_mem _ h1)
    · refine Int.le_trans ?_ h2
      split <;> omega
    · rcases List.mem_cons.mp hy with rfl | hy
      · refine Int.le_trans ?_ h2
        split <;> omega
      · exact h3 y hy
theorem foldmin : ∀ (xs : List Int) (x : Int), (xs.foldl (fun a b => if b < a then b else a) x = x ∨ xs.foldl (fun a b => if b < a then b else a) x ∈ xs) ∧ xs.foldl (fun a b => if b < a then b else a) x ≤ x ∧ ∀ y ∈ xs, xs.foldl (fun a b => if b < a then b else a) x ≤ y
  | [], x => ⟨.inl rfl, Int.le_refl _, fun y h => nomatch h⟩
  | b :: xs, x => by
    obtain ⟨h1, h2, h3⟩ := foldmin xs (if b < x then b else x)
    rw [List.foldl_cons]
    refine ⟨?_, ?_, fun y hy => ?_⟩
    · rcases h1 with h1 | h1
      · rw [h1]
        by_cases e : b < x
        · rw [if_pos e]; exact .inr List.mem_cons_self
        · rw [if_neg e]; exact .inl rfl
      · exact .inr (List.mem_cons_of_mem _ h1)
    · refine Int.le_trans h2 ?_
      split <;> omega
    · rcases List.mem_cons.mp hy with rfl | hy
      · refine Int.le_trans h2 ?_
        split <;> omega
      · exact h3 y hy
theorem maxI_spec {ns : List Int} {m : Int} (h : maxI ns = some m) : m ∈ ns ∧ ∀ y ∈ ns, y ≤ m := by
  cases ns with
  | nil => cases h
  | cons x xs =>
    cases h
    obtain ⟨h1, h2, h3⟩ := foldmax xs x
    refine ⟨?_, fun y hy => ?_⟩
    · rcases h1 with h1 | h1
      · rw [h1]; exact List.mem_cons_self
      · exact List.mem_cons_of_mem _ h1
    · rcases List.mem_cons.mp hy with rfl | hy
      · exact h2
      · exact h3 y hy
theorem minI_spec {ns : List Int} {m : Int} (h : minI ns = some m) : m ∈ ns ∧ ∀ y ∈ ns, m ≤ y := by
  cases ns with
  | nil => cases h
  | cons x xs =>
    cases h
    obtain ⟨h1, h2, h3⟩ := foldmin xs x
    refine ⟨?_, fun y hy => ?_⟩
    · rcases h1 with h1 | h1
      · rw [h1]; exact List.mem_cons_self
      · exact List.mem_cons_of_mem _ h1
    · rcases List.mem_cons.mp hy with rfl | hy
      · exact h2
      · exact h3 y hy
def opMax : D → Option D
  | .lst xs => (intsOf xs).bind fun ns => (maxI ns).map .int
  | _ => none
def opMin : D → Option D
  | .lst xs => (intsOf xs).bind fun ns => (minI ns).map .int
  | _ => none
def opSum : D → Option D
  | .lst xs => (intsOf xs).map fun ns => .int ns.sum
  | .tup xs => (intsOf xs).map fun ns => .int ns.sum
  | _ => none
section
variable {K : PySem.W.Frag}
theorem list_ints {H F : Hp} {x : V} {xs : List D} {ns : List Int} (s : FSub F H) (rx : RepL K H F x (.lst xs)) (h : intsOf xs = some ns) : ∃ a, x = .ref a ∧ SqL K H a (ns.map V.int) := by
  obtain ⟨a, vs, rfl, h1, z1, r1⟩ := rx.list s
  rw [intsOf_eq h] at r1
  rw [r1.ints] at h1
  exact ⟨a, rfl, .of h1⟩
theorem d_max1 : D1Ok K (rMax K) opMax := by
  intro x H F dx d Q s rx hd q
  unfold opMax at hd
  split at hd
  · obtain ⟨ns, h1, hd⟩ := bind2 hd
    obtain ⟨m, h2, rfl⟩ := Option.map_eq_some_iff.mp hd
    obtain ⟨a, rfl, hq⟩ := list_ints s rx h1
    obtain ⟨h3, h4⟩ := maxI_spec h2
    refine ⟨a, ns, rfl, hq, List.length_pos_of_mem h3, fun m' h5 h6 => ?_⟩
    have e : m' = m := Int.le_antisymm (h4 _ h5) (h6 _ h3)
    subst e
    exact q _ H F (.refl s) .int
  · cases hd
theorem d_min1 : D1Ok K (rMin K) opMin := by
  intro x H F dx d Q s rx hd q
  unfold opMin at hd
  split at hd
  · obtain ⟨ns, h1, hd⟩ := bind2 hd
    obtain ⟨m, h2, rfl⟩ := Option.map_eq_some_iff.mp hd
    obtain ⟨a, rfl, hq⟩ := list_ints s rx h1
    obtain ⟨h3, h4⟩ := minI_spec h2
    refine ⟨a, ns, rfl, hq, List.length_pos_of_mem h3, fun m' h5 h6 => ?_⟩
    have e : m' = m := Int.le_antisymm (h6 _ h3) (h4 _ h5)
    subst e
    exact q _ H F (.refl s) .int
  · cases hd
theorem tup_ints {H F : Hp} {x : V} {xs : List D} {ns : List Int} (s : FSub F H) (rx : RepL K H F x (.tup xs)) (h : intsOf xs = some ns) : ∃ a, x = .ref a ∧ SqT K H a (ns.map V.int) := by
  obtain ⟨a, vs, rfl, f1, h1, z1, r1⟩ := rx.tup s
  rw [intsOf_eq h] at r1
  rw [r1.ints] at h1
  exact ⟨a, rfl, .of h1⟩
/-- sum of a list or of a tuple -/
def rSumB (K : PySem.W.Frag) : List V → Hp → VK → Prop := fun vs H Q => rSum K vs H Q ∨ ∃ (a : Addr) (ns : List Int), vs = [V.ref a] ∧ SqT K H a (ns.map V.int) ∧ Q (.int ns.sum) H
theorem cr_sumB {X : Cx} (hc : X.calm = true) : CallR X (.builtin "sum") (rSumB X.K) := by
  intro pins s σ H vs us Q I r h
  rcases h with h | ⟨a, ns, rfl, hs, q⟩
  · exact cr_sum hc pins s σ H vs us Q I r h
  · obtain ⟨its, rv, ht, _⟩ := I.tuple hs
    rw [Vals.ref1 r]
    have hi := rv.ints
    obtain ⟨xs, e⟩ := hi.allInts.items
    have hn : PySem.numsOf (PySem.intItems xs).toList = ns := by rw [← e]; exact hi.numsOf
    rw [PySem.nums_intItems] at hn
    rw [e] at ht
    refine PySem.W.ktm_sumG (I.ok.hd hc) ht fun h' tk t' hk => ?_
    rw [PySem.preSum_eq, List.take_of_length_le (by simp), hn]
    exact ⟨.int _, H, I.kept hk, ⟨_, rfl⟩, q⟩
theorem d_sum1 : D1Ok K (rSumB K) opSum := by
  intro x H F dx d Q s rx hd q
  unfold opSum at hd
  split at hd
  · obtain ⟨ns, h1, rfl⟩ := Option.map_eq_some_iff.mp hd
    obtain ⟨a, rfl, hq⟩ := list_ints s rx h1
    exact .inl ⟨a, ns, rfl, hq, q _ H F (.refl s) .int⟩
  · obtain ⟨ns, h1, rfl⟩ := Option.map_eq_some_iff.mp hd
    obtain ⟨a, rfl, hq⟩ := tup_ints s rx h1
    exact .inr ⟨a, ns, rfl, hq, q _ H F (.refl s) .int⟩
  · cases hd
def opAbs : D → Option D
  | .int i => some (.int (if i < 0 then -i else i))
  | _ => none
theorem d_abs1 : D1Ok K (fun xs H Q => ∃ i, xs = [.int i] ∧ Q (.int (if i < 0 then -i else i)) H) opAbs := by
  intro x H F dx d Q s rx hd q
  unfold opAbs at hd
  split at hd
  · cases hd
    exact ⟨_, by rw [rx.int], q _ H F (.refl s) .int⟩
  · cases hd
def opInt : D → Option D
  | .int i => some (.int i)
  | _ => none
theorem d_int1 : D1Ok K (fun xs H Q => (∃ i, xs = [.int i] ∧ Q (.int i) H) ∨ ∃ k, xs = [.bl k] ∧ Q (.int (if k then 1 else 0)) H) opInt := by
  intro x H F dx d Q s rx hd q
  unfold opInt at hd
  split at hd
  · cases hd
    exact .inl ⟨_, by rw [rx.int], q _ H F (.refl s) .int⟩
  · cases hd
abbrev opMax2 := opI fun i j => some (.int (if j > i then j else i))
abbrev opMin2 := opI fun i j => some (.int (if j < i then j else i))
theorem d_max2 : D2Ok K (fun x y H Q => ∃ i j, [x, y] = [V.int i, V.int j] ∧ Q (.int (if j > i then j else i)) H) opMax2 := by
  intro x y H F dx dy d Q s rx ry hd q
  unfold opMax2 opI at hd
  split at hd
  · cases hd
    exact ⟨_, _, by rw [rx.int, ry.int], q _ H F (.refl s) .int⟩
  · cases hd
theorem d_min2 : D2Ok K (fun x y H Q => ∃ i j, [x, y] = [V.int i, V.int j] ∧ Q (.int (if j < i then j else i)) H) opMin2 := by
  intro x y H F dx dy d Q s rx ry hd q
  unfold opMin2 opI at hd
  split at hd
  · cases hd
    exact ⟨_, _, by rw [rx.int, ry.int], q _ H F (.refl s) .int⟩
  · cases hd
/-! #### tuple(x), list(x) -/
def opTuple : D → Option D
  | .lst xs => some (.tup xs)
  | .tup xs => some (.tup xs)
  | _ => none
def opList : D → Option D
  | .lst xs => some (.lst xs)
  | .tup xs => some (.lst xs)
  | _ => none
theorem d_tuple1 : D1Ok K (fun xs H Q => ∃ p ys, xs = [.ref p] ∧ ((SqL K H p ys ∧ ∀ l, H l = none → Q (.ref l) (upd H l (.tup ys))) ∨ (SqT K H p ys ∧ Q (.ref p) H))) opTuple := by
  intro x H F dx d Q s rx hd q
  unfold opTuple at hd
  split at hd
  · cases hd
    obtain ⟨a, vs, rfl, h1, z1, r1⟩ := rx.list s
    refine ⟨a, vs, rfl, .inl ⟨.of h1, fun l hl => ?_⟩⟩
    have g := Grow.laid (o := .tup vs) s hl
    exact q _ _ _ g (.tup upd_same z1 (r1.mono (g.same s)))
  · cases hd
    obtain ⟨a, vs, rfl, f1, h1, z1, r1⟩ := rx.tup s
    exact ⟨a, vs, rfl, .inr ⟨.of h1, q _ H F (.refl s) (.tup f1 z1 r1)⟩⟩
  · cases hd
def rListOf (K : PySem.W.Frag) : List V → Hp → VK → Prop := fun xs H Q => ∃ p ys, xs = [.ref p] ∧ (SqL K H p ys ∨ SqT K H p ys) ∧ ∀ l, H l = none → Q (.ref l) (upd H l (.lst ys))
theorem d_list1 : D1Ok K (rListOf K) opList := by
  intro x H F dx d Q s rx hd q
  unfold opList at hd
  split at hd
  · cases hd
    obtain ⟨a, vs, rfl, h1, z1, r1⟩ := rx.list s
    refine ⟨a, vs, rfl, .inl (.of h1), fun l hl => ?_⟩
    have g := Grow.laid (o := .lst vs) s hl
    exact q _ _ _ g (.lst upd_same z1 (r1.mono (g.same s)))
  · cases hd
    obtain ⟨a, vs, rfl, f1, h1, z1, r1⟩ := rx.tup s
    refine ⟨a, vs, rfl, .inr (.of h1), fun l hl => ?_⟩
    have g := Grow.laid (o := .lst vs) s hl
    exact q _ _ _ g (.lst upd_same z1 (r1.mono (g.same s)))
  · cases hd
end
/-- list(x) that is written later -/
def eListO (f : Ex) : Ex := fun ρ m => (f ρ m).bind fun p => (look p.2 p.1).bind fun d => (itemsOf d).bind fun xs => if xs.length ≤ big then some (.own p.2.length, p.2 ++ [.lst xs]) else none
section
variable {X : Cx} {x : Str} {e : Expr} {f : Ex} {p pos : Pos}
theorem r_listO (hg : Gl X x) (hm : X.mg x = none) (hv : bootBuiltins x = some (.type "list")) (he : PE X e (tE X.K f)) (hn : x ≠ "__name__" := by decide) (hdb : (x == ("__debug__" : Str)) = false := by decide)
    (hs : starEach [e] X.env = (false, eval e X.env) :: starEach [] X.env := by rfl) (hpl : (backTo pos (starEach [] X.env)).any (·.1) = false := by rfl) : PE X (.Call (.Name x p) [e] [] pos) (tE X.K (eListO f)) :=
  PE_imp (pe_callTy call_list_of hg hm hv (pa_cons he pa_nil hs) hn hdb hs hpl) fun σ H Q h => by
    obtain ⟨ρ, m, F, as, e, m', env, hp, hf, q⟩ := h
    obtain ⟨⟨e1, m1⟩, h1, hf⟩ := bind2 hf
    obtain ⟨d, h2, hf⟩ := bind2 hf
    obtain ⟨xs, h3, hf⟩ := bind2 hf
    split at hf
    · rename_i z
      cases hf
      refine estep env hp h1 fun v H1 F1 as1 x1 hp1 env1 r1 => ?_
      have rl := look_rep hp1 r1 h2
      have fin2 : ∀ a vs, v = .ref a → (SqL X.K H1 a vs ∨ SqT X.K H1 a vs) → Reps X.K F1 vs xs → (∃ p ys, [v] = [V.ref p] ∧ (SqL X.K H1 p ys ∨ SqT X.K H1 p ys) ∧ ∀ l, H1 l = none → Q (.ref l) (upd H1 l (.lst ys))) := fun a vs ev hq rr => by
        subst ev
        refine ⟨a, vs, rfl, hq, fun l hl => q _ _ F1 ⟨as1.c ++ [l], as1.g⟩ (x1.trans ⟨Sm.refl _, pre_snoc _ _, rfl⟩) (hp1.cellNew hl ⟨hp1.sub.free hl, big_le z, vs, upd_same, rr⟩) (.own ?_)⟩
        rw [← hp1.len]
        simp
      cases d with
      | lst ys =>
        cases h3
        obtain ⟨a, vs, ev, g1, z1, rr⟩ := rl.list hp1.sub
        exact fin2 a vs ev (.inl (.of g1)) rr
      | tup ys =>
        cases h3
        obtain ⟨a, vs, ev, f1, g1, z1, rr⟩ := rl.tup hp1.sub
        exact fin2 a vs ev (.inr (.of g1)) rr
      | _ => cases h3
    · cases hf
end
end PL
/-! PL6: chains, isinstance, in, ==, slices, the methods of lists. -/
namespace PL
open PySem PySem.Spec L2
set_option autoImplicit false

/-! ### a op b op' c -/
def eChain (g g' : G2) (fa fb fc : Ex) : Ex := fun ρ m => (fa ρ m).bind fun p => (fb ρ p.2).bind fun q => (g p.1 q.1 q.2).bind fun r => match r.1 with
  | .d (.bl k) => if k = true then (fc ρ r.2).bind fun s => g' q.1 s.1 s.2 else some (.d (.bl false), r.2)
  | _ => none
section
variable {X : Cx} {pos : Pos} {a b c : Expr} {fa fb fc : Ex} {r r' : R2} {g g' : G2}
theorem chain_read (hg : R2Ok X.K r g) (hg' : R2Ok X.K r' g') : ∀ σ H Q, tE X.K (eChain g g' fa fb fc) σ H Q → tChain r r' (tE X.K fa) (tE X.K fb) (tE X.K fc) σ H Q := by
  intro σ H Q h
  obtain ⟨ρ, m, F, as, e, m', env, hp, hf, q⟩ := h
  obtain ⟨⟨ex, m1⟩, h1, hf⟩ := bind2 hf
  obtain ⟨⟨ey, m2⟩, h2, hf⟩ := bind2 hf
  obtain ⟨⟨er, m3⟩, h3, hf⟩ := bind2 hf
  refine estep env hp h1 fun v1 H1 F1 as1 x1 hp1 env1 r1 => estep env1 hp1 h2 fun v2 H2 F2 as2 x2 hp2 env2 r2 => ?_
  refine hg v1 v2 H2 F2 as2 m2 ex ey er m3 _ hp2 (r1.ext x2) r2 h3 fun v3 H3 F3 as3 x3 hp3 r3 => ?_
  have env3 := env2.ext x3
  have x123 := x1.trans (x2.trans x3)
  cases er with
  | d d =>
    cases d with
    | bl k =>
      refine ⟨k, RepE_bl r3, ?_⟩
      cases k with
      | true =>
        obtain ⟨⟨ez, m4⟩, h4, hf⟩ := bind2 hf
        refine estep env3 hp3 h4 fun v4 H4 F4 as4 x4 hp4 env4 r4 => ?_
        exact hg' v2 v4 H4 F4 as4 m4 ey ez e m' Q hp4 (r2.ext (x3.trans x4)) r4 hf fun v H' F' as' x5 hp5 r5 => q v H' F' as' (x123.trans (x4.trans x5)) hp5 r5
      | false => cases hf; exact q _ H3 F3 as3 x123 hp3 (.d .bl)
    | _ => cases hf
  | _ => cases hf
theorem r_chain {op op' : CmpOp} (ho : OpR X (compareOp op) r) (hg : R2Ok X.K r g) (ho' : OpR X (compareOp op') r') (hg' : R2Ok X.K r' g') (ha : PE X a (tE X.K fa)) (hb : PE X b (tE X.K fb)) (hc : PE X c (tE X.K fc))
    (hm : lastMarks [op, op'] [b, c] = false := by with_unfolding_all rfl) : PE X (.Compare a [op, op'] [b, c] pos) (tE X.K (eChain g g' fa fb fc)) := PE_imp (pe_chain ho ho' ha hb hc hm) (chain_read hg hg')
theorem r_chainT {op op' : CmpOp} (ho : OpR X (compareOp op) r) (hg : R2Ok X.K r g) (ho' : OpR X (compareOp op') r') (hg' : R2Ok X.K r' g') (ha : PE X a (tE X.K fa)) (hb : PE X b (tE X.K fb)) (hc : PE X c (tE X.K fc))
    (hm : lastMarks [op, op'] [b, c] = false := by with_unfolding_all rfl) : PT X (.Compare a [op, op'] [b, c] pos) (tT X.K (tOf (eChain g g' fa fb fc))) := PT_imp (pt_chain ho ho' ha hb hc hm) (test_read (chain_read hg hg'))
end

/-! ### isinstance -/
def kindD : D → Option String
  | .non => some "NoneType"
  | .bl _ => some "bool"
  | .int _ => some "int"
  | .str _ => some "str"
  | .tup _ => some "tuple"
  | .lst _ => some "list"
  | _ => none
def isKind (T k : String) : Bool := k == T || (k == "bool" && T == "int")
def eIsi (T : String) (f : Ex) : Ex := fun ρ m => (f ρ m).bind fun p => (look p.2 p.1).bind fun d => (kindD d).bind fun k => some (.d (.bl (isKind T k)), p.2)
/-- the built-in classes of which the text asks -/
abbrev askable : List String := ["tuple", "list", "bool", "int", "str"]
theorem kit_isKind {K : PySem.W.Frag} {T k : String} (hT : T ∈ askable) (d : D) (hk : kindD d = some k) : PySem.W.kitOne K (.type k) (.type T) = some (isKind T k) := by
  have hk2 : k ∈ ["NoneType", "bool", "int", "str", "tuple", "list"] := by
    cases d <;> first | (cases hk; decide) | cases hk
  simp only [askable, List.mem_cons, List.not_mem_nil, or_false] at hT hk2
  rcases hT with rfl | rfl | rfl | rfl | rfl <;> rcases hk2 with rfl | rfl | rfl | rfl | rfl | rfl <;> exact kit_ty (by decide +kernel)
theorem tyx_of {K : PySem.W.Frag} {H F : Hp} {v : V} {d : D} {k : String} (s : FSub F H) (r : RepL K H F v d) (hk : kindD d = some k) : TyX K H v (.type k) := by
  cases d with
  | non => cases hk; rw [r.non]; exact .base .non
  | bl b => cases hk; rw [r.bl]; exact .base (.bl b)
  | int i => cases hk; rw [r.int]; exact .base (.int i)
  | str x => cases hk; rw [r.str]; exact .base (.str x)
  | tup ds => cases hk; obtain ⟨a, vs, rfl, _, h, _⟩ := r.tup s; exact .base (.tup h)
  | lst ds => cases hk; obtain ⟨a, vs, rfl, h, _⟩ := r.list s; exact .base (.lst h)
  | _ => cases hk
section
variable {X : Cx} {x y : Str} {T : String} {e : Expr} {f : Ex} {p p2 pos : Pos}
theorem r_isi (hT : T ∈ askable) (hg : Gl X x) (hm : X.mg x = none) (hv : bootBuiltins x = some (.builtin "isinstance")) (hgT : Gl X y) (hmT : X.mg y = none) (hvT : bootBuiltins y = some (.type T)) (he : PE X e (tE X.K f))
    (hn : x ≠ "__name__" := by decide) (hdb : (x == ("__debug__" : Str)) = false := by decide) (hnT : y ≠ "__name__" := by decide) (hdbT : (y == ("__debug__" : Str)) = false := by decide)
    (hs : starEach [e, .Name y p2] X.env = (false, eval e X.env) :: starEach [.Name y p2] X.env := by rfl) (hs2 : starEach [.Name y p2] X.env = (false, eval (.Name y p2) X.env) :: starEach [] X.env := by rfl) (hpl : (backTo pos (starEach [.Name y p2] X.env)).any (·.1) = false := by rfl) :
    PE X (.Call (.Name x p) [e, .Name y p2] [] pos) (tE X.K (eIsi T f)) :=
  PE_imp (pe_callB call_isi hg hm hv (pa_cons he (pa_cons (pe_bltn (v := .ty T) hgT hmT hvT rfl hnT hdbT) pa_nil hs2) hs) hn hdb hs hpl) fun σ H Q h => by
    obtain ⟨ρ, m, F, as, e, m', env, hp, hf, q⟩ := h
    obtain ⟨⟨e1, m1⟩, h1, hf⟩ := bind2 hf
    obtain ⟨d, h2, hf⟩ := bind2 hf
    obtain ⟨k, h3, hf⟩ := bind2 hf
    cases hf
    refine estep env hp h1 fun v H1 F1 as1 x1 hp1 env1 r1 => ?_
    exact ⟨v, .ty T, _, _, _, rfl, .ty T, tyx_of hp1.sub (look_rep hp1 r1 h2) h3, kit_isKind hT d h3, q _ H1 F1 as1 x1 hp1 (.d .bl)⟩
end

/-! ### data as the library reads it -/
mutual
def py : D → Option PyData
  | .non => some .none
  | .int i => some (.int i)
  | .str x => if PyData.strOk x = true then some (.str x) else none
  | .tup xs => (pys xs).map .tuple
  | .lst xs => (pys xs).map .list
  | _ => none
def pys : List D → Option (List PyData)
  | [] => some []
  | x :: xs => (py x).bind fun p => (pys xs).map (p :: ·)
end
mutual
theorem py_inj : ∀ (x y : D) (p q : PyData), py x = some p → py y = some q → (PyData.eqv p q = true ↔ x = y)
  | .non, y, p, q, h1, h2 => by
    simp only [py] at h1; cases h1
    cases y <;> simp only [py] at h2 <;> first | (cases h2; simp [PyData.eqv]; done) | cases h2 | (obtain ⟨ps, _, rfl⟩ := Option.map_eq_some_iff.mp h2; simp [PyData.eqv]; done) | (split at h2; (cases h2; simp [PyData.eqv]); cases h2)
  | .int i, y, p, q, h1, h2 => by
    simp only [py] at h1; cases h1
    cases y <;> simp only [py] at h2 <;> first | (cases h2; simp [PyData.eqv]; done) | cases h2 | (obtain ⟨ps, _, rfl⟩ := Option.map_eq_some_iff.mp h2; simp [PyData.eqv]; done) | (split at h2; (cases h2; simp [PyData.eqv]); cases h2)
  | .str i, y, p, q, h1, h2 => by
    simp only [py] at h1
    split at h1
    · cases h1
      cases y <;> simp only [py] at h2 <;> first | (cases h2; simp [PyData.eqv]; done) | cases h2 | (obtain ⟨ps, _, rfl⟩ := Option.map_eq_some_iff.mp h2; simp [PyData.eqv]; done) | (split at h2; (cases h2; simp [PyData.eqv]); cases h2)
    · cases h1
  | .tup xs, y, p, q, h1, h2 => by
    simp only [py] at h1
    obtain ⟨ps, e1, rfl⟩ := Option.map_eq_some_iff.mp h1
    cases y with
    | tup ys =>
      simp only [py] at h2
      obtain ⟨qs, e2, rfl⟩ := Option.map_eq_some_iff.mp h2
      have ih := pys_inj xs ys ps qs e1 e2
      simp only [PyData.eqv, D.tup.injEq]
      exact ih
    | non => simp only [py] at h2; cases h2; simp [PyData.eqv]
    | int _ => simp only [py] at h2; cases h2; simp [PyData.eqv]
    | str _ => simp only [py] at h2; split at h2; (cases h2; simp [PyData.eqv]); cases h2
    | lst _ => simp only [py] at h2; obtain ⟨qs, e2, rfl⟩ := Option.map_eq_some_iff.mp h2; simp [PyData.eqv]
    | bl _ => simp only [py] at h2; cases h2
    | dic _ => simp only [py] at h2; cases h2
    | dicT _ => simp only [py] at h2; cases h2
    | scr _ => simp only [py] at h2; cases h2
  | .lst xs, y, p, q, h1, h2 => by
    simp only [py] at h1
    obtain ⟨ps, e1, rfl⟩ := Option.map_eq_some_iff.mp h1
    cases y with
    | lst ys =>
      simp only [py] at h2
      obtain ⟨qs, e2, rfl⟩ := Option.map_eq_some_iff.mp h2
      have ih := pys_inj xs ys ps qs e1 e2
      simp only [PyData.eqv, D.lst.injEq]
      exact ih
    | non => simp only [py] at h2; cases h2; simp [PyData.eqv]
    | int _ => simp only [py] at h2; cases h2; simp [PyData.eqv]
    | str _ => simp only [py] at h2; split at h2; (cases h2; simp [PyData.eqv]); cases h2
    | tup _ => simp only [py] at h2; obtain ⟨qs, e2, rfl⟩ := Option.map_eq_some_iff.mp h2; simp [PyData.eqv]
    | bl _ => simp only [py] at h2; cases h2
    | dic _ => simp only [py] at h2; cases h2
    | dicT _ => simp only [py] at h2; cases h2
    | scr _ => simp only [py] at h2; cases h2
  | .bl _, _, _, _, h1, _ => by simp only [py] at h1; cases h1
  | .dic _, _, _, _, h1, _ => by simp only [py] at h1; cases h1
  | .dicT _, _, _, _, h1, _ => by simp only [py] at h1; cases h1
  | .scr _, _, _, _, h1, _ => by simp only [py] at h1; cases h1
theorem pys_inj : ∀ (xs ys : List D) (ps qs : List PyData), pys xs = some ps → pys ys = some qs → (PyData.eqvAll ps qs = true ↔ xs = ys)
  | [], [], _, _, h1, h2 => by
    simp only [pys] at h1 h2; cases h1; cases h2; simp [PyData.eqvAll]
  | [], y :: ys, _, _, h1, h2 => by
    simp only [pys] at h1 h2; cases h1
    obtain ⟨q, _, h2⟩ := bind2 h2
    obtain ⟨qs, _, rfl⟩ := Option.map_eq_some_iff.mp h2
    simp [PyData.eqvAll]
  | x :: xs, [], _, _, h1, h2 => by
    simp only [pys] at h1 h2; cases h2
    obtain ⟨q, _, h1⟩ := bind2 h1
    obtain ⟨qs, _, rfl⟩ := Option.map_eq_some_iff.mp h1
    simp [PyData.eqvAll]
  | x :: xs, y :: ys, _, _, h1, h2 => by
    simp only [pys] at h1 h2
    obtain ⟨p, e1, h1⟩ := bind2 h1
    obtain ⟨ps, e2, rfl⟩ := Option.map_eq_some_iff.mp h1
    obtain ⟨q, e3, h2⟩ := bind2 h2
    obtain ⟨qs, e4, rfl⟩ := Option.map_eq_some_iff.mp h2
    simp only [PyData.eqvAll, Bool.and_eq_true, List.cons.injEq]
    rw [py_inj x y p q e1 e3, pys_inj xs ys ps qs e2 e4]
end
mutual
def depD : D → Nat
  | .tup xs => depDs xs + 1
  | .lst xs => depDs xs + 1
  | _ => 0
def depDs : List D → Nat
  | [] => 0
  | x :: xs => max (depD x) (depDs xs)
end
mutual
theorem py_shape : ∀ (x : D) (p : PyData), py x = some p → p.canLay0 = true ∧ p.depth = depD x
  | .non, p, h => by simp only [py] at h; cases h; exact ⟨by simp [PyData.canLay0], by simp [PyData.depth, depD]⟩
  | .int _, p, h => by simp only [py] at h; cases h; exact ⟨by simp [PyData.canLay0], by simp [PyData.depth, depD]⟩
  | .str _, p, h => by
    simp only [py] at h
    split at h
    · rename_i z
      cases h
      exact ⟨by simp only [PyData.canLay0]; exact z, by simp [PyData.depth, depD]⟩
    · cases h
  | .tup xs, p, h => by
    simp only [py] at h
    obtain ⟨ps, e, rfl⟩ := Option.map_eq_some_iff.mp h
    obtain ⟨a, b⟩ := pys_shape xs ps e
    exact ⟨by simp only [PyData.canLay0]; exact a, by simp only [PyData.depth, depD, b]⟩
  | .lst xs, p, h => by
    simp only [py] at h
    obtain ⟨ps, e, rfl⟩ := Option.map_eq_some_iff.mp h
    obtain ⟨a, b⟩ := pys_shape xs ps e
    exact ⟨by simp only [PyData.canLay0]; exact a, by simp only [PyData.depth, depD, b]⟩
  | .bl _, _, h => by simp only [py] at h; cases h
  | .dic _, _, h => by simp only [py] at h; cases h
  | .dicT _, _, h => by simp only [py] at h; cases h
  | .scr _, _, h => by simp only [py] at h; cases h
theorem pys_shape : ∀ (xs : List D) (ps : List PyData), pys xs = some ps → PyData.canLayAll0 ps = true ∧ PyData.depthAll ps = depDs xs
  | [], _, h => by simp only [pys] at h; cases h; exact ⟨by simp [PyData.canLayAll0], by simp [PyData.depthAll, depDs]⟩
  | x :: xs, _, h => by
    simp only [pys] at h
    obtain ⟨p, e1, h⟩ := bind2 h
    obtain ⟨ps, e2, rfl⟩ := Option.map_eq_some_iff.mp h
    obtain ⟨a, b⟩ := py_shape x p e1
    obtain ⟨c, d⟩ := pys_shape xs ps e2
    exact ⟨by simp only [PyData.canLayAll0, Bool.and_eq_true]; exact ⟨a, c⟩, by simp only [PyData.depthAll, depDs, b, d]⟩
end
mutual
theorem dp_of {K : PySem.W.Frag} {H F : Hp} (s : FSub F H) : ∀ (d : D) (p : PyData) (v : V), py d = some p → Rep K F v d → Dp K H v p
  | .non, p, v, h, r => by simp only [py] at h; cases h; cases r; exact .non
  | .int _, p, v, h, r => by simp only [py] at h; cases h; cases r; exact .int _
  | .str _, p, v, h, r => by
    simp only [py] at h
    split at h
    · cases h; cases r; exact .str _
    · cases h
  | .tup xs, p, v, h, r => by
    simp only [py] at h
    obtain ⟨ps, e, rfl⟩ := Option.map_eq_some_iff.mp h
    cases r with
    | tup h1 h2 h3 => exact .tup (.of (s.tup h1)) (dps_of s xs ps _ e h3)
  | .lst xs, p, v, h, r => by
    simp only [py] at h
    obtain ⟨ps, e, rfl⟩ := Option.map_eq_some_iff.mp h
    cases r with
    | lst h1 h2 h3 => exact .lst (.of (s.lst h1)) (dps_of s xs ps _ e h3)
  | .bl _, _, _, h, _ => by simp only [py] at h; cases h
  | .dic _, _, _, h, _ => by simp only [py] at h; cases h
  | .dicT _, _, _, h, _ => by simp only [py] at h; cases h
  | .scr _, _, _, h, _ => by simp only [py] at h; cases h
theorem dps_of {K : PySem.W.Frag} {H F : Hp} (s : FSub F H) : ∀ (ds : List D) (ps : List PyData) (vs : List V), pys ds = some ps → Reps K F vs ds → DpAll K H vs ps
  | [], _, _, h, r => by simp only [pys] at h; cases h; cases r; exact .nil
  | x :: xs, _, _, h, r => by
    simp only [pys] at h
    obtain ⟨p, e1, h⟩ := bind2 h
    obtain ⟨ps, e2, rfl⟩ := Option.map_eq_some_iff.mp h
    cases r with
    | cons r1 r2 => exact .cons (dp_of s x p _ e1 r1) (dps_of s xs ps _ e2 r2)
end
theorem dp_look {K : PySem.W.Frag} {H F : Hp} (s : FSub F H) {d : D} {p : PyData} {v : V} (h : py d = some p) (r : RepL K H F v d) : Dp K H v p := by
  cases r with
  | of r => exact dp_of s d p v h r
  | @lst a vs ds h1 h2 h3 =>
    simp only [py] at h
    obtain ⟨ps, e, rfl⟩ := Option.map_eq_some_iff.mp h
    exact .lst (.of h1) (dps_of s ds ps _ e h3)
  | dic _ _ => simp only [py] at h; cases h
  | dicT _ _ => simp only [py] at h; cases h
theorem py_shaped {d : D} {p : PyData} (h : py d = some p) (hd : depD d ≤ 64) : SeqAt.shaped p = true := by
  obtain ⟨a, b⟩ := py_shape d p h
  show (p.canLay0 && decide (p.depth ≤ 64)) = true
  rw [Bool.and_eq_true]
  exact ⟨a, decide_eq_true (by omega)⟩
noncomputable def eqD (x y : D) : Option Bool := match eqS x y with
  | some b => some b
  | none => match py x, py y with
    | some _, some _ => if depD x ≤ 64 ∧ depD y ≤ 64 then some (decide (x = y)) else none
    | _, _ => none
noncomputable def opEqA (x y : D) : Option D := (eqD x y).map .bl
noncomputable def opNeA (x y : D) : Option D := (eqD x y).map fun b => .bl !b
def rEqA (K : PySem.W.Frag) : R2 := fun x y H Q => rEq x y H Q ∨ rEqD K x y H Q
def rNeA (K : PySem.W.Frag) : R2 := fun x y H Q => rNe x y H Q ∨ rNeD K x y H Q
theorem op_eqA {X : Cx} (hu : X.A.units + 64 < cLine) : OpR X (compareOp .Eq) (rEqA X.K) := op_eq.or (op_eqD hu)
theorem op_neA {X : Cx} (hu : X.A.units + 64 < cLine) : OpR X (compareOp .NotEq) (rNeA X.K) := op_ne.or (op_neD hu)
theorem eqD_cases {K : PySem.W.Frag} {H F : Hp} {x y : V} {dx dy : D} {b : Bool} (s : FSub F H) (rx : RepL K H F x dx) (ry : RepL K H F y dy) (h : eqD dx dy = some b) :
    (scal x y = true ∧ decide (x = y) = b) ∨ ∃ d e, Dp K H x d ∧ Dp K H y e ∧ SeqAt.shaped d = true ∧ SeqAt.shaped e = true ∧ PyData.eqv d e = b := by
  unfold eqD at h
  split at h
  · rename_i b' e
    cases h
    exact .inl (eqS_ok rx ry e)
  · split at h
    · rename_i p q e1 e2
      split at h
      · rename_i z
        cases h
        refine .inr ⟨p, q, dp_look s e1 rx, dp_look s e2 ry, py_shaped e1 z.1, py_shaped e2 z.2, ?_⟩
        have := py_inj dx dy p q e1 e2
        by_cases w : dx = dy
        · rw [decide_eq_true w]; exact this.mpr w
        · rw [decide_eq_false w]
          cases r : PyData.eqv p q with
          | false => rfl
          | true => exact absurd (this.mp r) w
      · cases h
    · cases h
theorem d_eqA {K : PySem.W.Frag} : D2Ok K (rEqA K) opEqA := by
  intro x y H F dx dy d Q s rx ry hd q
  obtain ⟨b, h1, rfl⟩ := Option.map_eq_some_iff.mp hd
  rcases eqD_cases s rx ry h1 with ⟨h2, h3⟩ | ⟨p, p', h2, h3, h4, h5, h6⟩
  · exact .inl ⟨h2, by rw [h3]; exact q _ H F (.refl s) .bl⟩
  · exact .inr ⟨p, p', h2, h3, h4, h5, by rw [h6]; exact q _ H F (.refl s) .bl⟩
theorem d_neA {K : PySem.W.Frag} : D2Ok K (rNeA K) opNeA := by
  intro x y H F dx dy d Q s rx ry hd q
  obtain ⟨b, h1, rfl⟩ := Option.map_eq_some_iff.mp hd
  rcases eqD_cases s rx ry h1 with ⟨h2, h3⟩ | ⟨p, p', h2, h3, h4, h5, h6⟩
  · exact .inl ⟨h2, by rw [h3]; exact q _ H F (.refl s) .bl⟩
  · exact .inr ⟨p, p', h2, h3, h4, h5, by rw [h6]; exact q _ H F (.refl s) .bl⟩

/-! ### in -/
def rInT (K : PySem.W.Frag) (neg : Bool) : R2 := fun x y H Q => ∃ d e, (∃ ds, (e = .list ds ∨ e = .tuple ds) ∧ Dp K H x d ∧ Dp K H y e ∧ SeqAt.shaped d = true ∧ SeqAt.shaped e = true ∧ Q (.bl (if neg then !(ds.any fun z => PyData.eqv z d) else ds.any fun z => PyData.eqv z d)) H)
theorem room_in2 {A : Around} {d : PyData} {n : Nat} (h : SeqAt.shaped d = true) (hu : A.units + 65 < cLine) : A.units + 1 + min n d.depth < cLine := by
  have := SeqAt.depth_of_shaped h
  omega
theorem op_inT {X : Cx} (hu : X.A.units + 65 < cLine) : OpR X (compareOp .In) (rInT X.K false) := by
  intro pins s σ H x y v u Q I rx ry h
  obtain ⟨d, e, ds, he, hd, hy, sd, se, q⟩ := h
  obtain ⟨as, r1⟩ := Dp.reads I d x v hd rx
  obtain ⟨bs, r2⟩ := Dp.reads I e y u hy ry
  have q : Q (.bl (ds.any fun z => PyData.eqv z d)) H := q
  rcases he with rfl | rfl
  · exact SeqAt.in_list_reads r2 r1 (SeqAt.canLay_of_shaped se) (SeqAt.canLay_of_shaped sd) (room_in2 sd hu) ⟨.bl _, H, I, rfl, q⟩
  · exact SeqAt.in_tuple_reads r2 r1 (SeqAt.canLay_of_shaped se) (SeqAt.canLay_of_shaped sd) (room_in2 sd hu) ⟨.bl _, H, I, rfl, q⟩
theorem op_notInT {X : Cx} (hu : X.A.units + 65 < cLine) : OpR X (compareOp .NotIn) (rInT X.K true) := by
  intro pins s σ H x y v u Q I rx ry h
  obtain ⟨d, e, ds, he, hd, hy, sd, se, q⟩ := h
  obtain ⟨as, r1⟩ := Dp.reads I d x v hd rx
  obtain ⟨bs, r2⟩ := Dp.reads I e y u hy ry
  have q : Q (.bl (!ds.any fun z => PyData.eqv z d)) H := q
  rcases he with rfl | rfl
  · exact SeqAt.notIn_list_reads r2 r1 (SeqAt.canLay_of_shaped se) (SeqAt.canLay_of_shaped sd) (room_in2 sd hu) ⟨.bl _, H, I, rfl, q⟩
  · exact SeqAt.notIn_tuple_reads r2 r1 (SeqAt.canLay_of_shaped se) (SeqAt.canLay_of_shaped sd) (room_in2 sd hu) ⟨.bl _, H, I, rfl, q⟩
noncomputable def inD (x y : D) : Option Bool := (itemsOf y).bind fun ds => match py x, py y with
  | some _, some _ => if depD x ≤ 64 ∧ depD y ≤ 64 then some (decide (x ∈ ds)) else none
  | _, _ => none
noncomputable def opIn (x y : D) : Option D := (inD x y).map .bl
noncomputable def opNotIn (x y : D) : Option D := (inD x y).map fun b => .bl !b
theorem any_mem {x : D} {p : PyData} (hx : py x = some p) : ∀ (ds : List D) (ps : List PyData), pys ds = some ps → ((ps.any fun z => PyData.eqv z p) = true ↔ x ∈ ds)
  | [], _, h => by simp only [pys] at h; cases h; simp
  | y :: ys, _, h => by
    simp only [pys] at h
    obtain ⟨q, e1, h⟩ := bind2 h
    obtain ⟨qs, e2, rfl⟩ := Option.map_eq_some_iff.mp h
    rw [List.any_cons, Bool.or_eq_true, List.mem_cons, any_mem hx ys qs e2, py_inj y x q p e1 hx]
    constructor
    · rintro (h | h)
      · exact .inl h.symm
      · exact .inr h
    · rintro (h | h)
      · exact .inl h.symm
      · exact .inr h
theorem inD_cases {K : PySem.W.Frag} {H F : Hp} {x y : V} {dx dy : D} {b : Bool} (s : FSub F H) (rx : RepL K H F x dx) (ry : RepL K H F y dy) (h : inD dx dy = some b) :
    ∃ d e, ∃ ds, (e = .list ds ∨ e = .tuple ds) ∧ Dp K H x d ∧ Dp K H y e ∧ SeqAt.shaped d = true ∧ SeqAt.shaped e = true ∧ (ds.any fun z => PyData.eqv z d) = b := by
  unfold inD at h
  obtain ⟨ds, h1, h⟩ := bind2 h
  split at h
  · rename_i p q e1 e2
    split at h
    · rename_i z
      cases h
      have main : ∀ ps, pys ds = some ps → (ps.any fun z => PyData.eqv z p) = decide (dx ∈ ds) := fun ps e3 => by
        have := any_mem e1 ds ps e3
        by_cases w : dx ∈ ds
        · rw [decide_eq_true w]; exact this.mpr w
        · rw [decide_eq_false w]
          cases r : (ps.any fun z => PyData.eqv z p) with
          | false => rfl
          | true => exact absurd (this.mp r) w
      have e2' := e2
      cases dy with
      | lst ys =>
        cases h1
        simp only [py] at e2'
        obtain ⟨ps, e3, rfl⟩ := Option.map_eq_some_iff.mp e2'
        exact ⟨p, _, ps, .inl rfl, dp_look s e1 rx, dp_look s e2 ry, py_shaped e1 z.1, py_shaped e2 z.2, main ps e3⟩
      | tup ys =>
        cases h1
        simp only [py] at e2'
        obtain ⟨ps, e3, rfl⟩ := Option.map_eq_some_iff.mp e2'
        exact ⟨p, _, ps, .inr rfl, dp_look s e1 rx, dp_look s e2 ry, py_shaped e1 z.1, py_shaped e2 z.2, main ps e3⟩
      | _ => cases h1
    · cases h
  · cases h
theorem d_in {K : PySem.W.Frag} : D2Ok K (rInT K false) opIn := by
  intro x y H F dx dy d Q s rx ry hd q
  obtain ⟨b, h1, rfl⟩ := Option.map_eq_some_iff.mp hd
  obtain ⟨p, e, ds, h2, h3, h4, h5, h6, h7⟩ := inD_cases s rx ry h1
  exact ⟨p, e, ds, h2, h3, h4, h5, h6, by show Q (.bl (ds.any fun z => PyData.eqv z p)) H; rw [h7]; exact q _ H F (.refl s) .bl⟩
theorem d_notIn {K : PySem.W.Frag} : D2Ok K (rInT K true) opNotIn := by
  intro x y H F dx dy d Q s rx ry hd q
  obtain ⟨b, h1, rfl⟩ := Option.map_eq_some_iff.mp hd
  obtain ⟨p, e, ds, h2, h3, h4, h5, h6, h7⟩ := inD_cases s rx ry h1
  exact ⟨p, e, ds, h2, h3, h4, h5, h6, by show Q (.bl (!ds.any fun z => PyData.eqv z p)) H; rw [h7]; exact q _ H F (.refl s) .bl⟩
/-! ### is None -/
def opIsN : D → D → Option D
  | .non, .non => some (.bl true)
  | _, .non => some (.bl false)
  | _, _ => none
def opNotN : D → D → Option D
  | .non, .non => some (.bl false)
  | _, .non => some (.bl true)
  | _, _ => none
theorem RepL.isnon {K : PySem.W.Frag} {H F : Hp} {v : V} {d : D} (r : RepL K H F v d) : v = .non ↔ d = .non := by
  cases r with
  | of r => cases r <;> simp
  | _ => simp
theorem d_isN {K : PySem.W.Frag} : D2Ok K (fun x y H Q => y = .non ∧ Q (.bl (decide (x = .non))) H) opIsN := by
  intro x y H F dx dy d Q s rx ry hd q
  have hn := rx.isnon
  unfold opIsN at hd
  split at hd
  · cases hd
    refine ⟨ry.non, ?_⟩
    rw [decide_eq_true (hn.mpr rfl)]
    exact q _ H F (.refl s) .bl
  · rename_i h
    cases hd
    refine ⟨ry.non, ?_⟩
    rw [decide_eq_false (fun z => h (hn.mp z))]
    exact q _ H F (.refl s) .bl
  · cases hd
theorem d_notN {K : PySem.W.Frag} : D2Ok K (fun x y H Q => y = .non ∧ Q (.bl (!decide (x = .non))) H) opNotN := by
  intro x y H F dx dy d Q s rx ry hd q
  have hn := rx.isnon
  unfold opNotN at hd
  split at hd
  · cases hd
    refine ⟨ry.non, ?_⟩
    rw [decide_eq_true (hn.mpr rfl)]
    exact q _ H F (.refl s) .bl
  · rename_i h
    cases hd
    refine ⟨ry.non, ?_⟩
    rw [decide_eq_false (fun z => h (hn.mp z))]
    exact q _ H F (.refl s) .bl
  · cases hd
end PL
/-! PL7: the methods of lists, slices, ranges as lists, sets' sizes, the deal. -/
namespace PL
open PySem PySem.Spec L2
set_option autoImplicit false

def cellL (m : Store) (c : Nat) : Option (List D) := match m[c]? with
  | some (.lst xs) => some xs
  | _ => none
theorem cellL_eq {m : Store} {c : Nat} {xs : List D} (h : cellL m c = some xs) : m[c]? = some (.lst xs) := by
  unfold cellL at h
  split at h
  · rename_i e; cases h; exact e
  · cases h
section
variable {K : PySem.W.Frag} {F H : Hp} {as : Cs} {m : Store} {a : Addr} {c : Nat} {o : O} {ho : HO}
theorem HeapOk.write (hp : HeapOk K H F as m) (ha : as.c[c]? = some a) (hF : F a = none) (y : CellOk K (upd H a ho) F a o) : HeapOk K (upd H a ho) F as (m.set c o) := by
  have hl : c < m.length := by rw [← hp.len]; exact (List.getElem?_eq_some_iff.mp ha).1
  refine ⟨fun b u q => ?_, by rw [List.length_set]; exact hp.len, hp.nd, fun b q => ?_, fun c' b u q1 q2 => ?_, fun p hq => ?_, hp.pnd⟩
  · rw [upd_ne (fun z => by rw [z, hF] at q; cases q)]
    exact hp.sub b u q
  · by_cases e : b = a
    · rw [e, upd_same]; simp
    · rw [upd_ne e]; exact hp.there b q
  · by_cases hc : c = c'
    · subst hc
      rw [ha] at q1
      cases q1
      rw [List.getElem?_set_self hl] at q2
      cases q2
      exact y
    · rw [List.getElem?_set_ne hc] at q2
      have nb : b ≠ a := fun z => by
        rw [z] at q1
        exact hc (nd_ix hp.nd ha q1)
      have z := hp.cell c' b u q1 q2
      cases u with
      | lst ds => obtain ⟨y1, z, vs, y2, y3⟩ := z; exact ⟨y1, z, vs, by rw [upd_ne nb]; exact y2, y3⟩
      | dic ds => obtain ⟨y1, vs, y2, y3⟩ := z; exact ⟨y1, vs, by rw [upd_ne nb]; exact y2, y3⟩
      | dicT ds => obtain ⟨y1, vs, y2, y3⟩ := z; exact ⟨y1, vs, by rw [upd_ne nb]; exact y2, y3⟩
      | frz d => exact z
  · obtain ⟨p1, p2, p3⟩ := hp.prot p hq
    exact ⟨by rw [upd_ne (fun z => p3 (by rw [z]; exact List.mem_of_getElem? ha))]; exact p1, p2, p3⟩
theorem HeapOk.cellLst {ds : List D} (hp : HeapOk K H F as m) (ha : as.c[c]? = some a) (hm : cellL m c = some ds) : F a = none ∧ ds.length ≤ sizeLine ∧ ∃ vs, H a = some (.lst vs) ∧ Reps K F vs ds := hp.cell c a _ ha (cellL_eq hm)
end

/-! ### append, extend, pop -/
def eApp (fx fe : Ex) : Ex := fun ρ m => (fx ρ m).bind fun p => match p.1 with
  | .own c => (cellL p.2 c).bind fun _ => (fe ρ p.2).bind fun q => (frzE q.2 q.1).bind fun d => (cellL d.2 c).bind fun xs => if xs.length < big then some (.d .non, d.2.set c (.lst (xs ++ [d.1]))) else none
  | _ => none
def eExt (fx fe : Ex) : Ex := fun ρ m => (fx ρ m).bind fun p => match p.1 with
  | .own c => (cellL p.2 c).bind fun _ => (fe ρ p.2).bind fun q => (frzE q.2 q.1).bind fun d => (cellL d.2 c).bind fun xs => match d.1 with
    | .lst ys => if xs.length + ys.length ≤ big then some (.d .non, d.2.set c (.lst (xs ++ ys))) else none
    | _ => none
  | _ => none
def ePop (fx : Ex) : Ex := fun ρ m => (fx ρ m).bind fun p => match p.1 with
  | .own c => (cellL p.2 c).bind fun xs => (xs[xs.length - 1]?).bind fun d => some (.d d, p.2.set c (.lst xs.dropLast))
  | _ => none
section
variable {X : Cx} {o e : Expr} {fx fe : Ex} {apos cpos : Pos}
theorem r_app (ho : PE X o (tE X.K fx)) (he : PE X e (tE X.K fe))
    (hbase : attributeBase o "append" X.env (eval o X.env) = eval o X.env := by rfl)
    (hfew : ((backTo cpos (starEach [e] X.env)).all (fun x => !x.1) && (backToKw cpos (keywordEach [] X.env)).all (fun x => x.1.isSome)
      && decide ([e].length + ([] : List Keyword).length + (if ([] : List Keyword).isEmpty then 0 else 1) < 30)) = true := by rfl)
    (hline : (apos.endLine == cpos.line) = true := by rfl) (hs : starEach [e] X.env = (false, eval e X.env) :: starEach [] X.env := by rfl) (hplain : (backTo cpos (starEach [] X.env)).any (·.1) = false := by rfl) :
    PE X (.Call (.Attribute o "append" apos) [e] [] cpos) (tE X.K (eApp fx fe)) :=
  PE_imp (pe_bm PySem.F.plainAttrs_list PySem.F.slot_list_append PySem.F.type_list_append mt_append ho (pa_cons he pa_nil hs) hbase hfew hline hs hplain) fun σ H Q h => by
    obtain ⟨ρ, m, F, as, e, m', env, hp, hf, q⟩ := h
    obtain ⟨⟨e1, m1⟩, h1, hf⟩ := bind2 hf
    cases e1 with
    | own c =>
      obtain ⟨xs0, h2, hf⟩ := bind2 hf
      obtain ⟨⟨e2, m2⟩, h3, hf⟩ := bind2 hf
      obtain ⟨⟨d, m3⟩, h4, hf⟩ := bind2 hf
      obtain ⟨xs, h5, hf⟩ := bind2 hf
      split at hf
      · rename_i z
        cases hf
        refine estep env hp h1 fun v1 H1 F1 as1 x1 hp1 env1 r1 => ?_
        cases r1 with
        | @own a _ r1 =>
          obtain ⟨_, _, vs0, g1, _⟩ := hp1.cellLst r1 h2
          refine ⟨.inl ⟨rfl, vs0, .of g1⟩, estep env1 hp1 h3 fun v2 H2 F2 as2 x2 hp2 env2 r2 => ?_⟩
          obtain ⟨F3, x3, hp3, r3⟩ := frzE_ok hp2 r2 h4
          have ra := pre_get x2.2.1 r1
          obtain ⟨f1, z1, vs, g2, rv⟩ := hp3.cellLst ra h5
          refine ⟨a, vs, v2, rfl, rfl, g2, by rw [rv.length]; exact big_lt z, ?_⟩
          exact q _ _ F3 as2 (x1.trans (x2.trans x3)) (hp3.write ra f1 ⟨f1, by rw [List.length_append]; exact big_le z, _, upd_same, rv.append (.cons r3 .nil)⟩) (.d .non)
      · cases hf
    | _ => cases hf
theorem r_ext (ho : PE X o (tE X.K fx)) (he : PE X e (tE X.K fe))
    (hbase : attributeBase o "extend" X.env (eval o X.env) = eval o X.env := by rfl)
    (hfew : ((backTo cpos (starEach [e] X.env)).all (fun x => !x.1) && (backToKw cpos (keywordEach [] X.env)).all (fun x => x.1.isSome)
      && decide ([e].length + ([] : List Keyword).length + (if ([] : List Keyword).isEmpty then 0 else 1) < 30)) = true := by rfl)
    (hline : (apos.endLine == cpos.line) = true := by rfl) (hs : starEach [e] X.env = (false, eval e X.env) :: starEach [] X.env := by rfl) (hplain : (backTo cpos (starEach [] X.env)).any (·.1) = false := by rfl) :
    PE X (.Call (.Attribute o "extend" apos) [e] [] cpos) (tE X.K (eExt fx fe)) :=
  PE_imp (pe_bm PySem.F.plainAttrs_list PySem.F.slot_list_extend PySem.F.type_list_extend mt_extend ho (pa_cons he pa_nil hs) hbase hfew hline hs hplain) fun σ H Q h => by
    obtain ⟨ρ, m, F, as, e, m', env, hp, hf, q⟩ := h
    obtain ⟨⟨e1, m1⟩, h1, hf⟩ := bind2 hf
    cases e1 with
    | own c =>
      obtain ⟨xs0, h2, hf⟩ := bind2 hf
      obtain ⟨⟨e2, m2⟩, h3, hf⟩ := bind2 hf
      obtain ⟨⟨d, m3⟩, h4, hf⟩ := bind2 hf
      obtain ⟨xs, h5, hf⟩ := bind2 hf
      cases d with
      | lst ys =>
        simp only at hf
        split at hf
        · rename_i z
          cases hf
          refine estep env hp h1 fun v1 H1 F1 as1 x1 hp1 env1 r1 => ?_
          cases r1 with
          | @own a _ r1 =>
            obtain ⟨_, _, vs0, g1, _⟩ := hp1.cellLst r1 h2
            refine ⟨.inl ⟨rfl, vs0, .of g1⟩, estep env1 hp1 h3 fun v2 H2 F2 as2 x2 hp2 env2 r2 => ?_⟩
            obtain ⟨F3, x3, hp3, r3⟩ := frzE_ok hp2 r2 h4
            have ra := pre_get x2.2.1 r1
            obtain ⟨f1, z1, vs, g2, rv⟩ := hp3.cellLst ra h5
            obtain ⟨b, ws, rfl, g3, z3, rw'⟩ := RepL.list hp3.sub (.of r3 : RepL X.K H2 F3 v2 (.lst ys))
            refine ⟨a, b, vs, ws, rfl, rfl, g2, g3, by rw [rv.length, rw'.length]; exact big_le z, ?_⟩
            exact q _ _ F3 as2 (x1.trans (x2.trans x3)) (hp3.write ra f1 ⟨f1, by rw [List.length_append]; exact big_le z, _, upd_same, rv.append rw'⟩) (.d .non)
        · cases hf
      | _ => cases hf
    | _ => cases hf
theorem Reps.dropLast {K : PySem.W.Frag} {F : Hp} {vs : List V} {ds : List D} (r : Reps K F vs ds) : Reps K F vs.dropLast ds.dropLast := by
  rw [List.dropLast_eq_take, List.dropLast_eq_take, r.length]
  exact r.take _
theorem r_pop (ho : PE X o (tE X.K fx)) (hbase : attributeBase o "pop" X.env (eval o X.env) = eval o X.env := by rfl) (hline : (apos.endLine == cpos.line) = true := by rfl) :
    PE X (.Call (.Attribute o "pop" apos) [] [] cpos) (tE X.K (ePop fx)) :=
  PE_imp (pe_bm0 PySem.F.plainAttrs_list PySem.F.slot_list_pop PySem.F.type_list_pop mt_pop ho hbase hline) fun σ H Q h => by
    obtain ⟨ρ, m, F, as, e, m', env, hp, hf, q⟩ := h
    obtain ⟨⟨e1, m1⟩, h1, hf⟩ := bind2 hf
    cases e1 with
    | own c =>
      obtain ⟨xs, h2, hf⟩ := bind2 hf
      obtain ⟨d, h3, hf⟩ := bind2 hf
      cases hf
      refine estep env hp h1 fun v1 H1 F1 as1 x1 hp1 env1 r1 => ?_
      cases r1 with
      | @own a _ r1 =>
        obtain ⟨f1, z1, vs, g1, rv⟩ := hp1.cellLst r1 h2
        obtain ⟨v, e1, e2⟩ := rv.get h3
        refine ⟨.inl ⟨rfl, vs, .of g1⟩, a, vs, v, rfl, rfl, g1, by rw [rv.length]; exact e1, ?_⟩
        exact q _ _ F1 as1 x1 (hp1.write r1 f1 ⟨f1, by rw [List.length_dropLast]; omega, _, upd_same, rv.dropLast⟩) (.d e2)
    | _ => cases hf
end

/-! ### count, index: of a list of ints -/
/-- a method of one argument that changes nothing -/
def eM2 (op : D → D → Option D) (fx fe : Ex) : Ex := fun ρ m => (fx ρ m).bind fun p => (look p.2 p.1).bind fun d0 => match d0 with
  | .lst _ => (fe ρ p.2).bind fun q => g2 op p.1 q.1 q.2
  | _ => none
def opCount : D → D → Option D
  | .lst xs, .int k => (intsOf xs).map fun ns => .int (ns.count k : Nat)
  | _, _ => none
def opIndex : D → D → Option D
  | .lst xs, .int k => (intsOf xs).bind fun ns => if k ∈ ns then some (.int (ns.idxOf k : Nat)) else none
  | _, _ => none
section
variable {X : Cx} {o e : Expr} {fx fe : Ex} {apos cpos : Pos}
theorem m2_read {r : V → List V → Hp → VK → Prop} {op : D → D → Option D} (hd : D2Ok X.K (fun x y => r x [y]) op) : ∀ σ H Q, tE X.K (eM2 op fx fe) σ H Q → tBM X.K "list" r (tE X.K fx) (tCons (tE X.K fe) tNil) σ H Q := by
  intro σ H Q h
  obtain ⟨ρ, m, F, as, e, m', env, hp, hf, q⟩ := h
  obtain ⟨⟨e1, m1⟩, h1, hf⟩ := bind2 hf
  obtain ⟨d0, h2, hf⟩ := bind2 hf
  cases d0 with
  | lst xs =>
    obtain ⟨⟨e2, m2⟩, h3, hf⟩ := bind2 hf
    refine estep env hp h1 fun v1 H1 F1 as1 x1 hp1 env1 r1 => ?_
    obtain ⟨a, vs, rfl, g1, z1, rr⟩ := (look_rep hp1 r1 h2).list hp1.sub
    refine ⟨.inl ⟨rfl, vs, .of g1⟩, estep env1 hp1 h3 fun v2 H2 F2 as2 x2 hp2 env2 r2 => ?_⟩
    exact hd.r2 _ v2 H2 F2 as2 m2 e1 e2 e m' Q hp2 (r1.ext x2) r2 hf fun v H' F' as' x3 hp3 r3 => q v H' F' as' (x1.trans (x2.trans x3)) hp3 r3
  | _ => cases hf
theorem d_count {K : PySem.W.Frag} : D2Ok K (fun x y => rCntI K x [y]) opCount := by
  intro x y H F dx dy d Q s rx ry hd q
  unfold opCount at hd
  split at hd
  · obtain ⟨ns, h1, rfl⟩ := Option.map_eq_some_iff.mp hd
    obtain ⟨a, rfl, hq⟩ := list_ints s rx h1
    exact ⟨a, ns, _, rfl, by rw [ry.int], hq, q _ H F (.refl s) .int⟩
  · cases hd
theorem flat_ints (ns : List Int) : (ns.map V.int).all flatV = true := by
  rw [List.all_map]
  exact List.all_eq_true.mpr fun _ _ => rfl
theorem eqV_int {a b : Int} : eqV (.int a) (.int b) = decide (a = b) := by
  show (_ : Bool) = _
  unfold eqV
  first
    | rfl
    | simp
theorem idxOf_get {k : Int} : ∀ {ns : List Int}, k ∈ ns → ns[ns.idxOf k]? = some k ∧ ∀ (j : Nat) (z : Int), j < ns.idxOf k → ns[j]? = some z → z ≠ k
  | [], h => nomatch h
  | n :: ns, h => by
    by_cases e : n = k
    · subst e
      rw [List.idxOf_cons_self]
      exact ⟨rfl, fun j z hj => absurd hj (Nat.not_lt_zero _)⟩
    · have h2 : k ∈ ns := by
        rcases List.mem_cons.mp h with q | q
        · exact absurd q.symm e
        · exact q
      obtain ⟨h3, h4⟩ := idxOf_get h2
      have ec : (n :: ns).idxOf k = ns.idxOf k + 1 := by
        rw [List.idxOf_cons]
        have : (n == k) = false := beq_eq_false_iff_ne.mpr e
        rw [this]
        rfl
      rw [ec]
      refine ⟨h3, fun j z hj hz => ?_⟩
      cases j with
      | zero => cases hz; exact e
      | succ j => exact h4 j z (by omega) hz
theorem d_index {K : PySem.W.Frag} : D2Ok K (fun x y => rIndex K x [y]) opIndex := by
  intro x y H F dx dy d Q s rx ry hd q
  unfold opIndex at hd
  split at hd
  · obtain ⟨ns, h1, hd⟩ := bind2 hd
    split at hd
    · rename_i hk
      cases hd
      obtain ⟨a, rfl, hq⟩ := list_ints s rx h1
      obtain ⟨h3, h4⟩ := idxOf_get hk
      have ey := ry.int
      subst ey
      refine ⟨a, ns.map V.int, .int _, ns.idxOf _, .int _, rfl, rfl, hq, rfl, flat_ints ns, by rw [List.getElem?_map, h3]; rfl, by rw [eqV_int]; simp, fun j z hj hz => ?_, q _ H F (.refl s) .int⟩
      rw [List.getElem?_map] at hz
      obtain ⟨z', e1, rfl⟩ := Option.map_eq_some_iff.mp hz
      rw [eqV_int]
      exact decide_eq_false (h4 j z' hj e1)
    · cases hd
  · cases hd
theorem r_count (ho : PE X o (tE X.K fx)) (he : PE X e (tE X.K fe))
    (hbase : attributeBase o "count" X.env (eval o X.env) = eval o X.env := by rfl)
    (hfew : ((backTo cpos (starEach [e] X.env)).all (fun x => !x.1) && (backToKw cpos (keywordEach [] X.env)).all (fun x => x.1.isSome)
      && decide ([e].length + ([] : List Keyword).length + (if ([] : List Keyword).isEmpty then 0 else 1) < 30)) = true := by rfl)
    (hline : (apos.endLine == cpos.line) = true := by rfl) (hs : starEach [e] X.env = (false, eval e X.env) :: starEach [] X.env := by rfl) (hplain : (backTo cpos (starEach [] X.env)).any (·.1) = false := by rfl) :
    PE X (.Call (.Attribute o "count" apos) [e] [] cpos) (tE X.K (eM2 opCount fx fe)) :=
  PE_imp (pe_bm PySem.F.plainAttrs_list PySem.F.slot_list_count PySem.F.type_list_count mt_lcount ho (pa_cons he pa_nil hs) hbase hfew hline hs hplain) (m2_read d_count)
theorem r_index (ho : PE X o (tE X.K fx)) (he : PE X e (tE X.K fe))
    (hbase : attributeBase o "index" X.env (eval o X.env) = eval o X.env := by rfl)
    (hfew : ((backTo cpos (starEach [e] X.env)).all (fun x => !x.1) && (backToKw cpos (keywordEach [] X.env)).all (fun x => x.1.isSome)
      && decide ([e].length + ([] : List Keyword).length + (if ([] : List Keyword).isEmpty then 0 else 1) < 30)) = true := by rfl)
    (hline : (apos.endLine == cpos.line) = true := by rfl) (hs : starEach [e] X.env = (false, eval e X.env) :: starEach [] X.env := by rfl) (hplain : (backTo cpos (starEach [] X.env)).any (·.1) = false := by rfl) :
    PE X (.Call (.Attribute o "index" apos) [e] [] cpos) (tE X.K (eM2 opIndex fx fe)) :=
  PE_imp (pe_bm PySem.F.plainAttrs_list PySem.F.slot_list_index PySem.F.type_list_index mt_index ho (pa_cons he pa_nil hs) hbase hfew hline hs hplain) (m2_read d_index)
end

/-! ### xs[i] = v -/
def sPutL (fo fi fv : Ex) : Sx := fun ρ m => (fv ρ m).bind fun p => (fo ρ p.2).bind fun q => (fi ρ q.2).bind fun r => match q.1 with
  | .own c => (intOf r.2 r.1).bind fun i => (frzE r.2 p.1).bind fun d => (cellL d.2 c).bind fun xs => (ixN xs.length i).bind fun j => some (.nx, ρ, d.2.set c (.lst (xs.set j d.1)))
  | _ => none
section
variable {X : Cx} {o i e : Expr} {fo fi fv : Ex} {pos pos' : Pos}
theorem r_putL (ho : PE X o (tE X.K fo)) (hi : PE X i (tE X.K fi)) (hv : PE X e (tE X.K fv)) (ha : ∀ v, assign (.Subscript o i pos') X.env v = (do
      let ov ← holding [v] (eval o X.env)
      let iv ← holding [v, ov] (eval i X.env)
      standAt pos'
      holding [v, ov, iv] (setItem ov iv v)
      release [v, ov, iv] []) := by intro _; rfl) (hs : swapsWithSole [.Subscript o i pos'] e pos.line X.env = pure false := by rfl) (hw : swappedStores [.Subscript o i pos'] e X.env = pure none := by rfl)
    (h1 : (assignEach [.Subscript o i pos'] X.env).map (·.2) = [assign (.Subscript o i pos') X.env] := by rfl) : PS X (.Assign [.Subscript o i pos'] e pos) (tS X.K (sPutL fo fi fv)) :=
  PS_imp (ps_asg hv (pg_sub ho hi set_list ha) hs hw h1) fun D σ H h => by
    obtain ⟨ρ, m, F, as, fl, ρ', m', env, hp, hf, q⟩ := h
    obtain ⟨⟨e1, m1⟩, g1, hf⟩ := bind2 hf
    obtain ⟨⟨e2, m2⟩, g2, hf⟩ := bind2 hf
    obtain ⟨⟨e3, m3⟩, g3, hf⟩ := bind2 hf
    cases e2 with
    | own c =>
      obtain ⟨k, g4, hf⟩ := bind2 hf
      obtain ⟨⟨d, m4⟩, g5, hf⟩ := bind2 hf
      obtain ⟨xs, g6, hf⟩ := bind2 hf
      obtain ⟨j, g7, hf⟩ := bind2 hf
      cases hf
      refine estep env hp g1 fun v1 H1 F1 as1 x1 hp1 env1 r1 => estep env1 hp1 g2 fun v2 H2 F2 as2 x2 hp2 env2 r2 => estep env2 hp2 g3 fun v3 H3 F3 as3 x3 hp3 env3 r3 => ?_
      have e3' := intOf_rep hp3 r3 g4
      subst e3'
      obtain ⟨F4, x4, hp4, r4⟩ := frzE_ok hp3 (r1.ext (x2.trans x3)) g5
      cases r2 with
      | @own a _ r2 =>
        have ra := pre_get x3.2.1 r2
        obtain ⟨f1, z1, vs, g8, rv⟩ := hp4.cellLst ra g6
        have xx := x1.trans (x2.trans (x3.trans x4))
        refine ⟨a, vs, k, j, rfl, rfl, g8, by rw [rv.length]; exact g7, ?_⟩
        exact q σ _ F4 as3 xx (env3.ext x4) (hp4.write ra f1 ⟨f1, by rw [List.length_set]; exact z1, _, upd_same, Reps.set r4 j rv⟩)
    | _ => cases hf
end

/-! ### slices -/
abbrev Ox := Rho → Store → Option (Option Int × Store)
def oNone : Ox := fun _ m => some (none, m)
def oSome (f : Ex) : Ox := fun ρ m => (f ρ m).bind fun p => (intOf p.2 p.1).bind fun i => some (some i, p.2)
def tO (K : PySem.W.Frag) (f : Ox) : TO := fun σ H Q => ∃ ρ m F as o m', EnvOk K F as σ ρ ∧ HeapOk K H F as m ∧ f ρ m = some (o, m') ∧ ∀ H' F' as', Ext F F' as as' → HeapOk K H' F' as' m' → Q o H'
def cutD {α : Type} (xs : List α) (lo hi : Option Int) : List α := (xs.drop (HT.sIx xs.length 0 lo)).take (HT.sIx xs.length xs.length hi - HT.sIx xs.length 0 lo)
def opSl : D → Option Int → Option Int → Option D
  | .lst xs, lo, hi => some (.lst (cutD xs lo hi))
  | .tup xs, lo, hi => some (.tup (cutD xs lo hi))
  | _, _, _ => none
def eSl (f : Ex) (l h : Ox) : Ex := fun ρ m => (f ρ m).bind fun p => (l ρ p.2).bind fun q => (h ρ q.2).bind fun r => (look r.2 p.1).bind fun d => (opSl d q.1 r.1).bind fun d' => some (.d d', r.2)
theorem cutD_le {α : Type} (xs : List α) (lo hi : Option Int) : (cutD xs lo hi).length ≤ xs.length := by
  unfold cutD
  rw [List.length_take, List.length_drop]
  omega
section
variable {X : Cx} {e : Expr} {el eh : Option Expr} {e1 : Expr} {f : Ex} {l h : Ox} {p2 pos : Pos}
theorem PO_imp {o : Option Expr} {t t' : TO} (h : PO X o t) (i : ∀ σ H Q, t' σ H Q → t σ H Q) : PO X o t' := ⟨fun pins s σ H Q I q => h.run pins s σ H Q I (i σ H Q q)⟩
theorem r_onone : PO X none (tO X.K oNone) := PO_imp po_none fun σ H Q h => by
  obtain ⟨ρ, m, F, as, o, m', env, hp, hf, q⟩ := h
  cases hf
  exact q H F as .refl hp
theorem r_osome (he : PE X e1 (tE X.K f)) : PO X (some e1) (tO X.K (oSome f)) := PO_imp (po_some he) fun σ H Q h => by
  obtain ⟨ρ, m, F, as, o, m', env, hp, hf, q⟩ := h
  obtain ⟨⟨e2, m1⟩, h1, hf⟩ := bind2 hf
  obtain ⟨i, h2, hf⟩ := bind2 hf
  cases hf
  exact estep env hp h1 fun v H1 F1 as1 x1 hp1 env1 r1 => ⟨i, intOf_rep hp1 r1 h2, q H1 F1 as1 x1 hp1⟩
theorem Reps.cut {K : PySem.W.Frag} {F : Hp} {vs : List V} {ds : List D} (r : Reps K F vs ds) (lo hi : Option Int) : Reps K F (cutV vs lo hi) (cutD ds lo hi) := by
  unfold cutV cutD
  rw [r.length]
  exact (r.drop _).take _
theorem sIx_none0 (n d : Nat) : HT.sIx n d none = d := rfl
theorem cut_whole {α : Type} (xs : List α) (lo hi : Option Int) (h : HT.sIx xs.length 0 lo = 0 ∧ HT.sIx xs.length xs.length hi = xs.length) : cutD xs lo hi = xs := by
  unfold cutD
  rw [h.1, h.2]
  simp
theorem r_sl (he : PE X e (tE X.K f)) (hl : PO X el (tO X.K l)) (hh : PO X eh (tO X.K h)) : PE X (.Subscript e (.Slice el eh none p2) pos) (tE X.K (eSl f l h)) :=
  PE_imp (pe_slice (sl_list.or sl_tupA) he hl hh) fun σ H Q h => by
    obtain ⟨ρ, m, F, as, e, m', env, hp, hf, q⟩ := h
    obtain ⟨⟨e1, m1⟩, h1, hf⟩ := bind2 hf
    obtain ⟨⟨lo, m2⟩, h2, hf⟩ := bind2 hf
    obtain ⟨⟨hi, m3⟩, h3, hf⟩ := bind2 hf
    obtain ⟨d, h4, hf⟩ := bind2 hf
    obtain ⟨d', h5, hf⟩ := bind2 hf
    cases hf
    refine estep env hp h1 fun v H1 F1 as1 x1 hp1 env1 r1 => ⟨ρ, m1, F1, as1, lo, m2, env1, hp1, h2, fun H2 F2 as2 x2 hp2 => ⟨ρ, m2, F2, as2, hi, m3, env1.ext x2, hp2, h3, fun H3 F3 as3 x3 hp3 => ?_⟩⟩
    have rl := look_rep hp3 (r1.ext (x2.trans x3)) h4
    have xx := x1.trans (x2.trans x3)
    cases d with
    | lst ds =>
      cases h5
      obtain ⟨a, vs, rfl, g1, z1, rr⟩ := rl.list hp3.sub
      refine .inl ⟨a, vs, rfl, .of g1, fun p hn => ?_⟩
      have g := Grow.laid (o := .lst (cutV vs lo hi)) hp3.sub hn
      exact q _ _ _ as3 (xx.trans (hp3.ext g)) (hp3.grow g) (.d (.lst upd_same (Nat.le_trans (cutV_length _ _ _) z1) ((rr.cut lo hi).mono (g.same hp3.sub))))
    | tup ds =>
      cases h5
      obtain ⟨a, vs, rfl, f1, g1, z1, rr⟩ := rl.tup hp3.sub
      refine .inr ⟨a, vs, rfl, .of g1, fun w => ?_, fun w p hn => ?_⟩
      · refine q _ H3 F3 as3 xx hp3 ?_
        show RepE X.K F3 as3 (.ref a) (.d (.tup (cutD ds lo hi)))
        rw [cut_whole ds lo hi (by rw [← rr.length]; exact w)]
        exact .d (.tup f1 z1 rr)
      · have g := Grow.laid (o := .tup (cutV vs lo hi)) hp3.sub hn
        exact q _ _ _ as3 (xx.trans (hp3.ext g)) (hp3.grow g) (.d (.tup upd_same (Nat.le_trans (cutV_length _ _ _) z1) ((rr.cut lo hi).mono (g.same hp3.sub))))
    | _ => cases h5
end
end PL
/-! PL8: turned slices, repeated lists, ranges as lists, sets' sizes, powers, the deal. -/
namespace PLt
open PySem PyProof.Rows HT
variable {prog : Program} {w : World} {A : Around} {E : Value → Shared → Prop} {s : Shared}
theorem fm_congr {α β : Type} {f g : α → Option β} : ∀ {l : List α}, (∀ a ∈ l, f a = g a) → l.filterMap f = l.filterMap g
  | [], _ => rfl
  | a :: l, h => by
    rw [List.filterMap_cons, List.filterMap_cons, h a List.mem_cons_self, fm_congr fun b hb => h b (List.mem_cons_of_mem _ hb)]
theorem places_rev (n : Nat) : Builtin.Slice.slicePlaces ((n : Int) - 1) (-1) (-1) = n := by
  unfold Builtin.Slice.slicePlaces
  rw [if_neg (by decide)]
  by_cases h : (n : Int) - 1 > -1
  · rw [if_pos h, show (-(-1) : Int) = 1 by decide, Int.ediv_one]
    omega
  · rw [if_neg h]
    omega
theorem pick_rev (xs : Array Value) : ((List.range xs.size).filterMap fun (m : Nat) => xs[(((xs.size : Nat) : Int) - 1 + (m : Int) * (-1)).toNat]?).toArray = xs.toList.reverse.toArray := by
  congr 1
  have e : (List.range xs.size).filterMap (fun (m : Nat) => xs[(((xs.size : Nat) : Int) - 1 + (m : Int) * (-1)).toNat]?) = ((List.range xs.size).map fun k => xs.size - 1 - k).filterMap (xs[·]?) := by
    rw [List.filterMap_map]
    refine fm_congr fun m hm => ?_
    have := List.mem_range.mp hm
    have e2 : (((xs.size : Nat) : Int) - 1 + (m : Int) * (-1)).toNat = xs.size - 1 - m := by omega
    show xs[(((xs.size : Nat) : Int) - 1 + (m : Int) * (-1)).toNat]? = xs[xs.size - 1 - m]?
    rw [e2]
  rw [e, PySem.W.krv_range, List.filterMap_reverse, PySem.W.krv_all]
theorem getItem_tuple_rev {t sl : Addr} {items : Array Value} {vl vu vs : Value} {Q : Value → Shared → Prop} (ht : IsTup s.heap t items) (hs : s.heap.IsSliceOf sl vl vu vs) (pl : IsPart vl none) (pu : IsPart vu none) (ps : IsPart vs (some (-1)))
    (h : Q (.ref s.heap.objs.size) { s with heap := s.heap.push { cls := .type "tuple", data := .seq items.toList.reverse.toArray } })
    (hsz : items.size ≤ sizeLine) : wpAny (model prog w) A (getItem (.ref t) (.ref sl)) Q E s := by
  have htake : sizeOk (.seq items.toList.reverse.toArray) := by
    show items.toList.reverse.toArray.size ≤ sizeLine
    rw [List.size_toArray, List.length_reverse, Array.length_toList]
    exact hsz
  obtain ⟨os, hos, hcs, hds⟩ := id hs
  have hTs : s.TypeIs (.ref sl) "slice" := ⟨os, hos, hcs⟩
  unfold getItem
  try with_reducible refine wpAny_holding ?_
  first | refine wpAny_bind (wpAny_pure ?_) | skip
  refine wpAny_bind (wpAny_sequenceKey ht.typeIs (by decide) ?_)
  refine wpAny_bind (wpAny_callSpecial?_slot (name := Str.ofString "__getitem__") ht.typeIs PyProof.Rows.slot_tuple_getitem
    (wpAny_call_entry PyProof.Rows.slot_tuple_getitem ht.typeIs entry_tuple_getitem ?_ (args_tuple_getitem _ _)))
  show wpAny _ _ (Builtin.Tuple.tupleItemsOf (.ref t) >>= _) _ _ s
  refine wpAny_bind (tupleItemsOf_ ht ?_)
  refine wpAny_bind (wpAny_typeOf hTs ?_)
  rw [if_pos (by decide)]
  refine wpAny_bind (m := Builtin.Slice.sliceApplied _ _) ?_
  unfold Builtin.Slice.sliceApplied Builtin.Slice.sliceFields
  refine wpAny_bind (wpAny_bind (wpAny_field hos hds (x := vl) rfl (wpAny_bind (wpAny_field hos hds (x := vu) rfl (wpAny_bind (wpAny_field hos hds (x := vs) rfl (wpAny_pure ?_)))))))
  refine wpAny_bind (slicePart_ ps ?_)
  show wpAny _ _ (if ((-1 : Int) == 0) = true then _ else _) _ _ s
  rw [if_neg (by decide)]
  refine wpAny_bind (slicePart_ pl (wpAny_bind (slicePart_ pu (wpAny_bind (wpAny_pure ?_)))))
  show wpAny _ _ (pure (((items.size : Nat) : Int) - 1, (-1 : Int), Builtin.Slice.slicePlaces (((items.size : Nat) : Int) - 1) (-1) (-1))) _ _ s
  rw [places_rev]
  refine wpAny_pure ?_
  have hno : ¬ (((((items.size : Nat) : Int) - 1) == 0 && (-1 : Int) == 1 && items.size == items.size) = true) := by
    intro q
    rw [Bool.and_eq_true, Bool.and_eq_true] at q
    exact absurd q.1.2 (by decide)
  show wpAny _ _ (if ((((items.size : Nat) : Int) - 1) == 0 && (-1 : Int) == 1 && items.size == items.size) = true then _ else _) _ _ s
  rw [if_neg hno, pick_rev]
  first
    | exact wpAny_bind (m := Builtin.Tuple.tupleExact _) (wpAny_newObj_type (wpAny_pure ⟨_, rfl, wpAny_pure h⟩) htake)
    | exact wpAny_bind (m := Builtin.Tuple.tupleExact _) (wpAny_newObj_type (wpAny_bind (wpAny_pure (wpAny_pure ⟨_, rfl, wpAny_pure h⟩))) htake)
    | exact wpAny_bind (wpAny_bind (m := Builtin.Tuple.tupleExact _) (wpAny_newObj_type (wpAny_pure (wpAny_pure ⟨_, rfl, wpAny_pure h⟩)) htake))
    | exact wpAny_bind (wpAny_bind (m := Builtin.Tuple.tupleExact _) (wpAny_newObj_type (wpAny_pure ⟨_, rfl, wpAny_pure h⟩) htake))
end PLt
namespace PL
open PySem PySem.Spec L2
set_option autoImplicit false
/-- t[::-1] of a tuple -/
def tRevT (K : PySem.W.Frag) (te : TE) : TE := fun σ H Q => te σ H fun x H1 => ∃ a xs, x = .ref a ∧ SqT K H1 a xs ∧ ∀ p, H1 p = none → Q (.ref p) (upd H1 p (.tup xs.reverse))
theorem pe_revT {X : Cx} {e : Expr} {te : TE} {k : Nat} {p1 p2 p3 pos : Pos} (he : PE X e te) : PE X (.Subscript e (.Slice none none (some (.UnaryOp .USub (.Constant (.int 1) k p1) p2)) p3) pos) (tRevT X.K te) := by
  refine ⟨fun pins s σ H Q I h => ?_⟩
  refine PyProof.Rows.Subscript_ (thn (he.run pins s σ H _ I h) fun v s1 ⟨x, H1, I1, r1, q1⟩ => ?_)
  obtain ⟨a, xs, ex, hx, q⟩ := q1
  subst ex
  cases r1
  have hst : PO X (some (.UnaryOp .USub (.Constant (.int 1) k p1) p2)) (tPart (tUn (rU fun i => .int (-i)) (tC (.int 1)))) := po_some (pe_un un_neg pe_int)
  refine wpAny_Slice (thn (po_none.run pins s1 σ H1 (fun o H2 => o = none ∧ H2 = H1) I1 ⟨rfl, rfl⟩) fun vl s2 ⟨l, H2, I2, pl, el, e2⟩ => ?_)
  subst el e2
  refine thn (po_none.run pins s2 σ H2 (fun o H3 => o = none ∧ H3 = H2) I2 ⟨rfl, rfl⟩) fun vu s3 ⟨u, H3, I3, pu, eu, e3⟩ => ?_
  subst eu e3
  refine thn (hst.run pins s3 σ H3 (fun o H4 => o = some (-1) ∧ H4 = H3) I3 ⟨1, rfl, -1, rfl, rfl, rfl⟩) fun vs s4 ⟨o, H4, I4, ps, eo, e4⟩ => ?_
  subst eo e4
  have I5 : Inv X pins σ H4 { s4 with heap := s4.heap.push { cls := .type "slice", data := .fields #[vl, vu, vs] } } := I4.kept (t' := s4.toks) fun b ob q => Heap.get?_push_of_some _ q
  obtain ⟨its, r, ht, hz⟩ := I5.tuple hx
  have hlen := r.length
  show wpAny (model X.prog X.w) X.A (PyProof.Rows.subscriptTail e (.Slice none none (some (.UnaryOp .USub (.Constant (.int 1) k p1) p2)) p3) (.ref a) (.ref s4.heap.objs.size)) (EP X pins σ Q) X.xe { s4 with heap := s4.heap.push { cls := .type "slice", data := .fields #[vl, vu, vs] } }
  refine PyProof.Rows.tail_any (ops := [.ref a, .ref s4.heap.objs.size]) ht.typeIs (PyProof.Rows.slot_tuple_getitem.lookup) ?_ (by with_unfolding_all rfl)
  refine PLt.getItem_tuple_rev ht (Heap.IsSliceOf.new _ vl vu vs) pl pu ps ?_ (by rw [List.size_toArray]; omega)
  refine ⟨.ref _, _, I5.laid (t' := s4.toks) (o := .tup xs.reverse) (fun b ob q => Heap.get?_push_of_some _ q) (Nat.le_refl _) ?_, rfl, q _ (I5.hok.fresh (Nat.le_refl _))⟩
  exact ⟨by rw [List.length_reverse]; exact hz, _, r.reverse, ⟨_, Heap.get?_push_size _ rfl, rfl, _, rfl⟩⟩
theorem PE_or {X : Cx} {e : Expr} {t t' : TE} (h : PE X e t) (h' : PE X e t') : PE X e (fun σ H Q => t σ H Q ∨ t' σ H Q) := ⟨fun pins s σ H Q I q => q.elim (h.run pins s σ H Q I) (h'.run pins s σ H Q I)⟩
def opRev : D → Option D
  | .lst xs => some (.lst xs.reverse)
  | .tup xs => some (.tup xs.reverse)
  | _ => none
section
variable {X : Cx} {e : Expr} {f : Ex} {k : Nat} {p1 p2 p3 pos : Pos}
theorem r_rev (he : PE X e (tE X.K f)) : PE X (.Subscript e (.Slice none none (some (.UnaryOp .USub (.Constant (.int 1) k p1) p2)) p3) pos) (tE X.K (eUn opRev f)) :=
  PE_imp (PE_or (pe_revL he) (pe_revT he)) fun σ H Q h => by
    obtain ⟨ρ, m, F, as, e, m', env, hp, hf, q⟩ := h
    obtain ⟨⟨e1, m1⟩, h1, hf⟩ := bind2 hf
    obtain ⟨d, h2, hf⟩ := bind2 hf
    obtain ⟨d', h3, hf⟩ := bind2 hf
    cases hf
    cases d with
    | lst ds =>
      cases h3
      refine .inl (estep env hp h1 fun v H1 F1 as1 x1 hp1 env1 r1 => ?_)
      obtain ⟨a, vs, rfl, g1, z1, rr⟩ := (look_rep hp1 r1 h2).list hp1.sub
      refine ⟨a, vs, rfl, .of g1, fun p hn => ?_⟩
      have g := Grow.laid (o := .lst vs.reverse) hp1.sub hn
      exact q _ _ _ as1 (x1.trans (hp1.ext g)) (hp1.grow g) (.d (.lst upd_same (by rw [List.length_reverse]; exact z1) (rr.rev.mono (g.same hp1.sub))))
    | tup ds =>
      cases h3
      refine .inr (estep env hp h1 fun v H1 F1 as1 x1 hp1 env1 r1 => ?_)
      obtain ⟨a, vs, rfl, f1, g1, z1, rr⟩ := (look_rep hp1 r1 h2).tup hp1.sub
      refine ⟨a, vs, rfl, .of g1, fun p hn => ?_⟩
      have g := Grow.laid (o := .tup vs.reverse) hp1.sub hn
      exact q _ _ _ as1 (x1.trans (hp1.ext g)) (hp1.grow g) (.d (.tup upd_same (by rw [List.length_reverse]; exact z1) (rr.rev.mono (g.same hp1.sub))))
    | _ => cases h3
end
/-! ### products: ints, or a list so often -/
noncomputable def opMulA : D → D → Option D
  | .int i, .int j => if okP ((-(2 ^ 64) < i ∧ i < 2 ^ 64) ∨ (-(2 ^ 64) < j ∧ j < 2 ^ 64)) = true then some (.int (i * j)) else none
  | .lst xs, .int k => if okP (-(2 ^ 63) ≤ k ∧ k < 2 ^ 63 ∧ xs.length * k.toNat ≤ big) = true then some (.lst (List.replicate k.toNat xs).flatten) else none
  | _, _ => none
def rMulA : R2 := fun x y H Q => (rI CMul fun i j => .int (i * j)) x y H Q ∨ rRep x y H Q
theorem op_mulA {X : Cx} : OpR X (binaryOp .Mult) rMulA := op_mul.or op_rep
theorem Reps.rep {K : PySem.W.Frag} {F : Hp} {vs : List V} {ds : List D} (r : Reps K F vs ds) : ∀ k : Nat, Reps K F (List.replicate k vs).flatten (List.replicate k ds).flatten
  | 0 => .nil
  | k + 1 => by
    rw [List.replicate_succ, List.replicate_succ, List.flatten_cons, List.flatten_cons]
    exact r.append (Reps.rep r k)
theorem rep_len {α : Type} (xs : List α) : ∀ k : Nat, (List.replicate k xs).flatten.length = xs.length * k
  | 0 => by simp
  | k + 1 => by rw [List.replicate_succ, List.flatten_cons, List.length_append, rep_len xs k, Nat.mul_succ, Nat.add_comm]
theorem d_mulA {K : PySem.W.Frag} : D2Ok K rMulA opMulA := by
  intro x y H F dx dy d Q s rx ry hd q
  unfold opMulA at hd
  split at hd
  · split at hd
    · rename_i c
      have c := of_okP c
      cases hd
      exact .inl ⟨_, _, rx.int, ry.int, c, q _ H F (.refl s) .int⟩
    · cases hd
  · rename_i xs k
    split at hd
    · rename_i z
      have z := of_okP z
      cases hd
      obtain ⟨a, vs, rfl, h1, z1, r1⟩ := rx.list s
      refine .inr ⟨a, _, vs, rfl, ry.int, h1, z.1, z.2.1, by rw [r1.length]; exact big_le z.2.2, fun p hn => ?_⟩
      have g := Grow.laid (o := .lst (List.replicate k.toNat vs).flatten) s hn
      exact q _ _ _ g (.lst upd_same (by rw [rep_len, r1.length]; exact big_le z.2.2) ((r1.rep _).mono (g.same s)))
    · cases hd
  · cases hd
noncomputable abbrev opPow := opI fun i j => if okP ((0 ≤ j ∧ j ≤ 1000) ∧ i.natAbs < 2 ^ 64) = true then some (.int (i ^ j.toNat)) else none
theorem d_pow {K : PySem.W.Frag} : D2Ok K (rI CPow fun i j => .int (i ^ j.toNat)) opPow := d_int fun i j d h => by
  split at h
  · rename_i c
    have c := of_okP c
    cases h
    exact ⟨⟨c.1.1, by omega, c.2⟩, fun _ => .int⟩
  · cases h
/-! ### list(range(..)), tuple(range(..)) -/
noncomputable def eListRg (f : Ex) : Ex := fun ρ m => (f ρ m).bind fun p => (intOf p.2 p.1).bind fun n => if okP (-(big : Int) ≤ n ∧ n ≤ big) = true then some (.d (.lst (rangeE 0 n.toNat)), p.2) else none
noncomputable def eTupRg (f : Ex) : Ex := fun ρ m => (f ρ m).bind fun p => (intOf p.2 p.1).bind fun n => if okP (-(big : Int) ≤ n ∧ n ≤ big) = true then some (.d (.tup (rangeE 0 n.toNat)), p.2) else none
theorem reps_rg {K : PySem.W.Frag} {F : Hp} (n : Int) : Reps K F (rgV 0 n) (rangeE 0 n.toNat) := by
  unfold rgV rangeE
  rw [show (n - 0).toNat = n.toNat by omega]
  have : ∀ l : List Nat, Reps K F (l.map fun (i : Nat) => V.int (0 + (i : Int))) (l.map fun (i : Nat) => D.int (0 + (i : Int))) := fun l => by
    induction l with
    | nil => exact .nil
    | cons a l ih => exact .cons .int ih
  exact this _
theorem rg_fits {n : Int} (h : -(big : Int) ≤ n ∧ n ≤ (big : Int)) : RgOk 0 n := by
  have hb : (big : Int) = 1000000 := rfl
  exact ⟨by omega, by omega, by omega, by omega, by omega⟩
theorem rg_len {n : Int} (h : -(big : Int) ≤ n ∧ n ≤ (big : Int)) : (rgV 0 n).length ≤ sizeLine := by
  have hb : (big : Int) = 1000000 := rfl
  rw [rgV_length, sizeLine_eq]
  omega
section
variable {X : Cx} {a : Expr} {f : Ex} {p p2 pos pos2 : Pos}
theorem r_listRg (hc : X.calm = true) (hg : Gl X "list") (hm : X.mg "list" = none) (hgr : Gl X "range") (hmr : X.mg "range" = none) (ha : PE X a (tE X.K f)) (na : starEach [a] X.env = (false, eval a X.env) :: starEach [] X.env := by rfl)
    (na2 : starEach [.Call (.Name "range" p2) [a] [] pos2] X.env = (false, eval (.Call (.Name "range" p2) [a] [] pos2) X.env) :: starEach [] X.env := by rfl) : PE X (.Call (.Name "list" p) [.Call (.Name "range" p2) [a] [] pos2] [] pos) (tE X.K (eListRg f)) :=
  PE_imp (pe_listRg hc hg hm (prg_1 hgr hmr ha na) na2) fun σ H Q h => by
    obtain ⟨ρ, m, F, as, e, m', env, hp, hf, q⟩ := h
    obtain ⟨⟨e1, m1⟩, h1, hf⟩ := bind2 hf
    obtain ⟨n, h2, hf⟩ := bind2 hf
    split at hf
    · rename_i z
      have z := of_okP z
      cases hf
      refine estep env hp h1 fun v H1 F1 as1 x1 hp1 env1 r1 => ⟨n, intOf_rep hp1 r1 h2, rg_fits z, fun l hn => ?_⟩
      have g := Grow.laid (o := .lst (rgV 0 n)) hp1.sub hn
      exact q _ _ _ as1 (x1.trans (hp1.ext g)) (hp1.grow g) (.d (.lst upd_same (rg_len z) (reps_rg n)))
    · cases hf
theorem r_tupRg (hc : X.calm = true) (hg : Gl X "tuple") (hm : X.mg "tuple" = none) (hgr : Gl X "range") (hmr : X.mg "range" = none) (ha : PE X a (tE X.K f)) (na : starEach [a] X.env = (false, eval a X.env) :: starEach [] X.env := by rfl)
    (na2 : starEach [.Call (.Name "range" p2) [a] [] pos2] X.env = (false, eval (.Call (.Name "range" p2) [a] [] pos2) X.env) :: starEach [] X.env := by rfl) : PE X (.Call (.Name "tuple" p) [.Call (.Name "range" p2) [a] [] pos2] [] pos) (tE X.K (eTupRg f)) :=
  PE_imp (pe_tupRg hc hg hm (prg_1 hgr hmr ha na) na2) fun σ H Q h => by
    obtain ⟨ρ, m, F, as, e, m', env, hp, hf, q⟩ := h
    obtain ⟨⟨e1, m1⟩, h1, hf⟩ := bind2 hf
    obtain ⟨n, h2, hf⟩ := bind2 hf
    split at hf
    · rename_i z
      have z := of_okP z
      cases hf
      refine estep env hp h1 fun v H1 F1 as1 x1 hp1 env1 r1 => ⟨n, intOf_rep hp1 r1 h2, rg_fits z, fun l hn => ?_⟩
      have g := Grow.laid (o := .tup (rgV 0 n)) hp1.sub hn
      exact q _ _ _ as1 (x1.trans (hp1.ext g)) (hp1.grow g) (.d (.tup upd_same (rg_len z) (reps_rg n)))
    · cases hf
end
/-! ### len(set(xs)), xs a list of ints -/
def distinct (ns : List Int) : List Int := ns.foldl PyProof.Rows.step_dedup []
theorem firstMet_eq (ns : List Int) : PyProof.Rows.firstMet (fun i => ns.getD i 0) ns.length = distinct ns := by
  unfold PyProof.Rows.firstMet distinct
  congr 1
  refine List.ext_getElem? fun i => ?_
  rw [List.getElem?_map]
  by_cases h : i < ns.length
  · rw [List.getElem?_range h]
    simp [h]
  · rw [List.getElem?_eq_none (by simpa using h), List.getElem?_eq_none (by omega)]
    rfl
def opLenSet : D → Option D
  | .lst xs => (intsOf xs).bind fun ns => if ns.length ≤ 4000 then some (.int (distinct ns).length) else none
  | _ => none
def tLenSetI (K : PySem.W.Frag) (ta : TE) : TE := fun σ H Q => ta σ H fun x H1 => ∃ l, ∃ ns : List Int, x = .ref l ∧ SqL K H1 l (ns.map V.int) ∧ ns.length ≤ 4000 ∧ Q (.int (distinct ns).length) H1
section
variable {X : Cx} {a : Expr} {ta : TE} {f : Ex} {p p2 q pos : Pos}
theorem pe_lenSetI (hc : X.calm = true) (hg : Gl X "len") (hm : X.mg "len" = none) (hg2 : Gl X "set") (hm2 : X.mg "set" = none) (ha : PE X a ta)
    (na : starEach [a] X.env = (false, eval a X.env) :: starEach [] X.env := by rfl) : PE X (.Call (.Name "len" p) [.Call (.Name "set" p2) [a] [] q] [] pos) (tLenSetI X.K ta) := by
  refine ⟨fun pins s σ H Q I h => ?_⟩
  refine PyProof.Rows.Call_ (ld_blt I hg hm PySem.boot_len ?_)
  refine PyProof.Rows.callWith_builtin1 (PyProof.Rows.args_cons ?_ rfl) rfl rfl
  refine PyProof.Rows.Call_ (ld_blt I hg2 hm2 PyProof.Rows.boot_set ?_)
  refine PyProof.Rows.callWith_type1 (PyProof.Rows.args_cons (thn (ha.run pins s σ H _ I h) fun v s1 ⟨x, H1, I1, r1, q1⟩ => PyProof.Rows.args_nil ?_) na) na rfl
  obtain ⟨l, ns, rfl, hq, hz, q1⟩ := q1
  cases r1
  obtain ⟨its, r, pl, _⟩ := I1.list hq
  have hi : PyProof.Rows.IntsAre its.toArray.toList ns := Vals.ints r
  have hl : its.toArray.size = ns.length := by
    have := r.length
    rw [List.length_map] at this
    rw [List.size_toArray]
    exact this.symm
  refine PySem.call_set_list (I1.ok.hd hc) pl.isList hi (by rw [hl]; show ns.length + 1 < 4096; omega) fun h' tk hS hk => ?_
  rw [hl, firstMet_eq] at hS
  refine PyProof.Rows.args_nil ?_
  obtain ⟨o, es, ep, t, ho, hex, hd, _, _, _, hf, hn⟩ := hS
  have I2 : Inv X pins σ H1 { s1 with heap := h', toks := tk } := I1.kept fun b o e => hk b o (Heap.lt_size e) e
  have hlen : (distinct ns).length ≤ 4000 := by
    have := PyProof.Rows.firstMet_length_le (fun i => ns.getD i 0) ns.length
    rw [firstMet_eq] at this
    omega
  refine call_len_set ho hex hd hf (by rw [hn] <;> omega) ⟨.int (distinct ns).length, H1, I2.tok _, ⟨_, by rw [hn]⟩, q1⟩
theorem r_lenSet (hc : X.calm = true) (hg : Gl X "len") (hm : X.mg "len" = none) (hg2 : Gl X "set") (hm2 : X.mg "set" = none) (ha : PE X a (tE X.K f))
    (na : starEach [a] X.env = (false, eval a X.env) :: starEach [] X.env := by rfl) : PE X (.Call (.Name "len" p) [.Call (.Name "set" p2) [a] [] q] [] pos) (tE X.K (eUn opLenSet f)) :=
  PE_imp (pe_lenSetI hc hg hm hg2 hm2 ha na) fun σ H Q h => by
    obtain ⟨ρ, m, F, as, e, m', env, hp, hf, q⟩ := h
    obtain ⟨⟨e1, m1⟩, h1, hf⟩ := bind2 hf
    obtain ⟨d, h2, hf⟩ := bind2 hf
    obtain ⟨d', h3, hf⟩ := bind2 hf
    cases hf
    refine estep env hp h1 fun v H1 F1 as1 x1 hp1 env1 r1 => ?_
    cases d with
    | lst xs =>
      obtain ⟨ns, h4, h3⟩ := bind2 h3
      split at h3
      · rename_i z
        cases h3
        obtain ⟨l, rfl, hq⟩ := list_ints hp1.sub (look_rep hp1 r1 h2) h4
        exact ⟨l, ns, rfl, hq, z, q _ H1 F1 as1 x1 hp1 (.d .int)⟩
      · cases h3
    | _ => cases h3
end
/-! ### the deal: its places -/
def dealAt (row : List Int) (c : Nat) (t : Int) : Int → Option E
  | 0 => some (.d (.lst (row.map .int)))
  | 1 => some (.own c)
  | 2 => some (.d (.int t))
  | _ => none
def gIx : G2 := fun x y m => match x with
  | .deal row c t => (intOf m y).bind fun i => (dealAt row c t i).bind fun e => some (e, m)
  | _ => g2 opIx x y m
theorem d_ixA {K : PySem.W.Frag} : R2Ok K (rIx K) gIx := by
  intro x y H F as m ex ey e m' Q hp rx ry hf q
  cases ex with
  | deal row c t =>
    obtain ⟨i, h1, hf⟩ := bind2 hf
    obtain ⟨e', h2, hf⟩ := bind2 hf
    cases hf
    have ei := intOf_rep hp ry h1
    subst ei
    cases rx with
    | @deal a r ca _ _ _ f1 f2 z f3 =>
      have hH := hp.sub.lst f1
      unfold dealAt at h2
      split at h2
      · cases h2
        exact .inl ⟨a, _, 0, .ref r, rfl, rfl, .of hH, rfl, q _ H F as .refl hp (.d (.lst f2 (by rw [List.length_map]; exact z) (Reps.of_ints row)))⟩
      · cases h2
        exact .inl ⟨a, _, 1, .ref ca, rfl, rfl, .of hH, rfl, q _ H F as .refl hp (.own f3)⟩
      · cases h2
        exact .inl ⟨a, _, 2, .int t, rfl, rfl, .of hH, rfl, q _ H F as .refl hp (.d .int)⟩
      · cases h2
  | d d => exact d_ix.r2 x y H F as m _ ey e m' Q hp rx ry hf q
  | own c => exact d_ix.r2 x y H F as m _ ey e m' Q hp rx ry hf q
/-- [row, [c], total], the deal as it is made: row written no more, [c] a cell -/
def eDeal (fr fc ft : Ex) : Ex := fun ρ m => (fr ρ m).bind fun p => (fc ρ p.2).bind fun q => (ft ρ q.2).bind fun r => (frzE r.2 p.1).bind fun d => (intOf d.2 r.1).bind fun t => match d.1, q.1 with
  | .lst xs, .own c => (intsOf xs).bind fun row => some (.deal row c t, d.2)
  | _, _ => none
section
variable {X : Cx} {a b c : Expr} {fr fc ft : Ex} {pos : Pos}
theorem r_deal (ha : PE X a (tE X.K fr)) (hb : PE X b (tE X.K fc)) (hc : PE X c (tE X.K ft)) (h1 : starEach [a, b, c] X.env = (false, eval a X.env) :: starEach [b, c] X.env := by rfl) (h2 : starEach [b, c] X.env = (false, eval b X.env) :: starEach [c] X.env := by rfl)
    (h3 : starEach [c] X.env = (false, eval c X.env) :: starEach [] X.env := by rfl) : PE X (.List [a, b, c] pos) (tE X.K (eDeal fr fc ft)) :=
  PE_imp (pe_lst (pa_cons ha (pa_cons hb (pa_cons hc pa_nil h3) h2) h1)) fun σ H Q h => by
    obtain ⟨ρ, m, F, as, e, m', env, hp, hf, q⟩ := h
    obtain ⟨⟨e1, m1⟩, h1, hf⟩ := bind2 hf
    obtain ⟨⟨e2, m2⟩, h2, hf⟩ := bind2 hf
    obtain ⟨⟨e3, m3⟩, h3, hf⟩ := bind2 hf
    obtain ⟨⟨d, m4⟩, h4, hf⟩ := bind2 hf
    obtain ⟨t, h5, hf⟩ := bind2 hf
    cases d with
    | lst xs =>
      cases e2 with
      | own k =>
        obtain ⟨row, h6, hf⟩ := bind2 hf
        cases hf
        refine estep env hp h1 fun v1 H1 F1 as1 x1 hp1 env1 r1 => estep env1 hp1 h2 fun v2 H2 F2 as2 x2 hp2 env2 r2 => estep env2 hp2 h3 fun v3 H3 F3 as3 x3 hp3 env3 r3 => ?_
        obtain ⟨F4, x4, hp4, r4⟩ := frzE_ok hp3 (r1.ext (x2.trans x3)) h4
        have ev := intOf_rep hp4 (r3.ext x4) h5
        subst ev
        cases r2 with
        | @own ca _ r2 =>
          have rc := pre_get (x3.trans x4).2.1 r2
          rw [intsOf_eq h6] at r4
          cases r4 with
          | @lst r vs _ f1 z1 rr =>
            have evs := rr.ints
            subst evs
            refine ⟨by show 3 ≤ sizeLine; rw [sizeLine_eq]; decide, fun p hn => ?_⟩
            have g := Grow.laid (o := .lst [.ref r, .ref ca, .int t]) hp4.sub hn
            refine q _ _ _ as3 ((x1.trans (x2.trans (x3.trans x4))).trans (hp4.ext g)) (hp4.grow g) (.deal upd_same ((g.same hp4.sub).ex rfl f1) (by rw [List.length_map] at z1; exact z1) rc)
      | _ => cases hf
    | _ => cases hf
end
end PL
/-! PL9: dicts. -/
namespace PL
open PySem PySem.Spec L2
set_option autoImplicit false

section
variable {κ : Type} [DecidableEq κ]
def valD (kvs : List (κ × D)) (k : κ) : Option D := (kvs.find? fun kv => decide (kv.1 = k)).map (·.2)
def putD (kvs : List (κ × D)) (k : κ) (v : D) : List (κ × D) := if (kvs.any fun kv => decide (kv.1 = k)) = true then kvs.map (fun kv => if kv.1 = k then (kv.1, v) else kv) else kvs ++ [(k, v)]
def dropD (kvs : List (κ × D)) (k : κ) : List (κ × D) := kvs.filter fun kv => decide (kv.1 ≠ k)
end
def KP {κ : Type} (K : PySem.W.Frag) (F : Hp) : List (κ × V) → List (κ × D) → Prop := Paired fun p q => p.1 = q.1 ∧ Rep K F p.2 q.2
section
variable {K : PySem.W.Frag} {F : Hp}
theorem KReps.kp : ∀ {vs : List (Key × V)} {ds : List (Key × D)}, KReps K F vs ds → KP K F vs ds
  | _, _, .nil => .nil
  | _, _, .cons a b => .cons ⟨rfl, a⟩ (KReps.kp b)
theorem KP.k : ∀ {vs : List (Key × V)} {ds : List (Key × D)}, KP K F vs ds → KReps K F vs ds
  | _, _, .nil => .nil
  | (k, v) :: _, (k', d) :: _, .cons ⟨h, a⟩ b => by
    have e : k = k' := h
    subst e
    exact .cons a (KP.k b)
theorem TReps.kp : ∀ {vs : List (List Key × V)} {ds : List (List Key × D)}, TReps K F vs ds → KP K F vs ds
  | _, _, .nil => .nil
  | _, _, .cons a b => .cons ⟨rfl, a⟩ (TReps.kp b)
theorem KP.t : ∀ {vs : List (List Key × V)} {ds : List (List Key × D)}, KP K F vs ds → TReps K F vs ds
  | _, _, .nil => .nil
  | (k, v) :: _, (k', d) :: _, .cons ⟨h, a⟩ b => by
    have e : k = k' := h
    subst e
    exact .cons a (KP.t b)
variable {κ : Type} [DecidableEq κ]
theorem KP.len : ∀ {vs : List (κ × V)} {ds : List (κ × D)}, KP K F vs ds → vs.length = ds.length
  | _, _, .nil => rfl
  | _, _, .cons _ b => congrArg (· + 1) (KP.len b)
theorem KP.any (k : κ) : ∀ {vs : List (κ × V)} {ds : List (κ × D)}, KP K F vs ds → (vs.any fun kv => decide (kv.1 = k)) = (ds.any fun kv => decide (kv.1 = k))
  | _, _, .nil => rfl
  | _, _, .cons ⟨h, _⟩ b => by rw [List.any_cons, List.any_cons, KP.any k b, h]
theorem KP.val (k : κ) : ∀ {vs : List (κ × V)} {ds : List (κ × D)}, KP K F vs ds → (valV vs k = none ∧ valD ds k = none) ∨ ∃ v d, valV vs k = some v ∧ valD ds k = some d ∧ Rep K F v d
  | _, _, .nil => .inl ⟨rfl, rfl⟩
  | p :: vs, q :: ds, .cons ⟨h, a⟩ b => by
    by_cases e : p.1 = k
    · refine .inr ⟨p.2, q.2, valV_pos e, ?_, a⟩
      simp [valD, List.find?_cons, ← h, e]
    · rw [valV_neg e]
      have e2 : valD (q :: ds) k = valD ds k := by
        simp only [valD, List.find?_cons]
        rw [show decide (q.1 = k) = false from decide_eq_false (fun z => e (h.trans z))]
      rw [e2]
      exact KP.val k b
theorem KP.app {vs vs' : List (κ × V)} {ds ds' : List (κ × D)} : KP K F vs ds → KP K F vs' ds' → KP K F (vs ++ vs') (ds ++ ds')
  | .nil, h => h
  | .cons a b, h => .cons a (KP.app b h)
theorem KP.mapput (k : κ) {v : V} {d : D} (r : Rep K F v d) : ∀ {vs : List (κ × V)} {ds : List (κ × D)}, KP K F vs ds → KP K F (vs.map fun kv => if kv.1 = k then (kv.1, v) else kv) (ds.map fun kv => if kv.1 = k then (kv.1, d) else kv)
  | _, _, .nil => .nil
  | p :: _, q :: _, .cons ⟨h, a⟩ b => by
    refine .cons ?_ (KP.mapput k r b)
    dsimp only
    by_cases e : p.1 = k
    · rw [if_pos e, if_pos (h.symm.trans e)]
      exact ⟨h, r⟩
    · rw [if_neg e, if_neg (fun z => e (h.trans z))]
      exact ⟨h, a⟩
theorem KP.put (k : κ) {v : V} {d : D} (r : Rep K F v d) {vs : List (κ × V)} {ds : List (κ × D)} (h : KP K F vs ds) : KP K F (putK vs k v) (putD ds k d) := by
  unfold putK putD
  rw [h.any k]
  split
  · exact h.mapput k r
  · exact h.app (.cons ⟨rfl, r⟩ .nil)
theorem KP.drop (k : κ) : ∀ {vs : List (κ × V)} {ds : List (κ × D)}, KP K F vs ds → KP K F (dropK vs k) (dropD ds k)
  | _, _, .nil => .nil
  | p :: vs, q :: ds, .cons ⟨h, a⟩ b => by
    have ih := KP.drop k b
    unfold dropK dropD at ih ⊢
    rw [List.filter_cons, List.filter_cons, h]
    split
    · exact .cons ⟨h, a⟩ ih
    · exact ih
end
def keyOf : D → Option Key
  | .int i => some (.inl i)
  | .str x => some (.inr x)
  | _ => none
def keysOf : List D → Option (List Key)
  | [] => some []
  | d :: r => (keyOf d).bind fun k => (keysOf r).map (k :: ·)
def keyT : D → Option (List Key)
  | .tup ds => keysOf ds
  | _ => none
section
variable {K : PySem.W.Frag} {F H : Hp}
theorem keyOf_rep {v : V} {d : D} {k : Key} (r : Rep K F v d) (h : keyOf d = some k) : v = kV k := by
  cases r <;> first | (cases h; rfl) | cases h
theorem keyOf_repL {v : V} {d : D} {k : Key} (r : RepL K H F v d) (h : keyOf d = some k) : v = kV k := by
  cases r with
  | of r => exact keyOf_rep r h
  | _ => cases h
theorem keysOf_rep : ∀ {vs : List V} {ds : List D} {ks : List Key}, Reps K F vs ds → keysOf ds = some ks → vs = ks.map kV
  | _, _, _, .nil, h => by cases h; rfl
  | _, _, _, .cons a b, h => by
    obtain ⟨k, h1, h⟩ := bind2 h
    obtain ⟨ks, h2, rfl⟩ := Option.map_eq_some_iff.mp h
    rw [keyOf_rep a h1, keysOf_rep b h2]
    rfl
theorem keyT_rep {v : V} {d : D} {k : List Key} (s : FSub F H) (r : RepL K H F v d) (h : keyT d = some k) : ∃ b, v = .ref b ∧ H b = some (.tup (k.map kV)) := by
  cases d with
  | tup ds =>
    obtain ⟨a, vs, rfl, f1, h1, z1, rr⟩ := r.tup s
    rw [keysOf_rep rr h] at h1
    exact ⟨a, rfl, h1⟩
  | _ => cases h
end
/-- what a dict gives for a key: none where the thing is no dict, or no key -/
def dget (d i : D) : Option (Option D) := match d with
  | .dic kvs => (keyOf i).map fun k => valD kvs k
  | .dicT kvs => (keyT i).map fun k => valD kvs k
  | _ => none
theorem dget_rep {K : PySem.W.Frag} {F H : Hp} {v w : V} {d i : D} {o : Option D} (s : FSub F H) (rv : RepL K H F v d) (rw' : RepL K H F w i) (h : dget d i = some o) :
    ∃ a ov, v = .ref a ∧ DGet H a w ov ∧ ((ov = none ∧ o = none) ∨ ∃ x y, ov = some x ∧ o = some y ∧ Rep K F x y) := by
  cases d with
  | dic kvs =>
    obtain ⟨k, h1, rfl⟩ := Option.map_eq_some_iff.mp h
    obtain ⟨a, vs, rfl, h2, h3⟩ := rv.dict s
    exact ⟨a, _, rfl, .inl ⟨vs, k, h2, keyOf_repL rw' h1, rfl⟩, h3.kp.val k⟩
  | dicT kvs =>
    obtain ⟨k, h1, rfl⟩ := Option.map_eq_some_iff.mp h
    obtain ⟨a, vs, rfl, h2, h3⟩ := rv.dictT s
    obtain ⟨b, rfl, h4⟩ := keyT_rep s rw' h1
    exact ⟨a, _, rfl, .inr ⟨vs, k, b, h2, rfl, h4, rfl⟩, h3.kp.val k⟩
  | _ => cases h
def eGetD (fo fi : Ex) : Ex := fun ρ m => (fo ρ m).bind fun p => (fi ρ p.2).bind fun q => (look q.2 p.1).bind fun d => (look q.2 q.1).bind fun i => (dget d i).bind fun o => o.bind fun x => some (.d x, q.2)
def eInD (fi fo : Ex) : Ex := fun ρ m => (fi ρ m).bind fun q => (fo ρ q.2).bind fun p => (look p.2 p.1).bind fun d => (look p.2 q.1).bind fun i => (dget d i).bind fun o => some (.d (.bl o.isSome), p.2)
def eNotInD (fi fo : Ex) : Ex := fun ρ m => (fi ρ m).bind fun q => (fo ρ q.2).bind fun p => (look p.2 p.1).bind fun d => (look p.2 q.1).bind fun i => (dget d i).bind fun o => some (.d (.bl !o.isSome), p.2)
section
variable {X : Cx} {o i : Expr} {fo fi : Ex} {pos : Pos}
theorem r_getD (hu : X.A.units + 1 < cLine) (ho : PE X o (tE X.K fo)) (hi : PE X i (tE X.K fi)) (hs : NoSl i) : PE X (.Subscript o i pos) (tE X.K (eGetD fo fi)) :=
  PE_imp (pe_dget hu ho hi hs) fun σ H Q h => by
    obtain ⟨ρ, m, F, as, e, m', env, hp, hf, q⟩ := h
    obtain ⟨⟨e1, m1⟩, h1, hf⟩ := bind2 hf
    obtain ⟨⟨e2, m2⟩, h2, hf⟩ := bind2 hf
    obtain ⟨d, h3, hf⟩ := bind2 hf
    obtain ⟨k, h4, hf⟩ := bind2 hf
    obtain ⟨ov, h5, hf⟩ := bind2 hf
    obtain ⟨x, h6, hf⟩ := bind2 hf
    cases hf
    refine estep env hp h1 fun v1 H1 F1 as1 x1 hp1 env1 r1 => estep env1 hp1 h2 fun v2 H2 F2 as2 x2 hp2 env2 r2 => ?_
    obtain ⟨a, ow, rfl, g, c⟩ := dget_rep hp2.sub (look_rep hp2 (r1.ext x2) h3) (look_rep hp2 r2 h4) h5
    rcases c with ⟨_, c⟩ | ⟨y, z, c1, c2, c3⟩
    · rw [c] at h6; cases h6
    · rw [c2] at h6
      cases h6
      rw [c1] at g
      exact ⟨a, y, rfl, g, q y H2 F2 as2 (x1.trans x2) hp2 (.d c3)⟩
theorem inD_read : ∀ σ H Q, tE X.K (eInD fi fo) σ H Q → tDIn (tE X.K fi) (tE X.K fo) σ H Q := by
  intro σ H Q h
  obtain ⟨ρ, m, F, as, e, m', env, hp, hf, q⟩ := h
  obtain ⟨⟨e1, m1⟩, h1, hf⟩ := bind2 hf
  obtain ⟨⟨e2, m2⟩, h2, hf⟩ := bind2 hf
  obtain ⟨d, h3, hf⟩ := bind2 hf
  obtain ⟨k, h4, hf⟩ := bind2 hf
  obtain ⟨ov, h5, hf⟩ := bind2 hf
  cases hf
  refine estep env hp h1 fun v1 H1 F1 as1 x1 hp1 env1 r1 => estep env1 hp1 h2 fun v2 H2 F2 as2 x2 hp2 env2 r2 => ?_
  obtain ⟨a, ow, rfl, g, c⟩ := dget_rep hp2.sub (look_rep hp2 r2 h3) (look_rep hp2 (r1.ext x2) h4) h5
  refine ⟨a, ow, rfl, g, ?_⟩
  have e : ow.isSome = ov.isSome := by
    rcases c with ⟨c1, c2⟩ | ⟨y, z, c1, c2, c3⟩ <;> rw [c1, c2] <;> rfl
  rw [e]
  exact q _ H2 F2 as2 (x1.trans x2) hp2 (.d .bl)
theorem notInD_read : ∀ σ H Q, tE X.K (eNotInD fi fo) σ H Q → tDNotIn (tE X.K fi) (tE X.K fo) σ H Q := by
  intro σ H Q h
  obtain ⟨ρ, m, F, as, e, m', env, hp, hf, q⟩ := h
  obtain ⟨⟨e1, m1⟩, h1, hf⟩ := bind2 hf
  obtain ⟨⟨e2, m2⟩, h2, hf⟩ := bind2 hf
  obtain ⟨d, h3, hf⟩ := bind2 hf
  obtain ⟨k, h4, hf⟩ := bind2 hf
  obtain ⟨ov, h5, hf⟩ := bind2 hf
  cases hf
  refine estep env hp h1 fun v1 H1 F1 as1 x1 hp1 env1 r1 => estep env1 hp1 h2 fun v2 H2 F2 as2 x2 hp2 env2 r2 => ?_
  obtain ⟨a, ow, rfl, g, c⟩ := dget_rep hp2.sub (look_rep hp2 r2 h3) (look_rep hp2 (r1.ext x2) h4) h5
  refine ⟨a, ow, rfl, g, ?_⟩
  have e : ow.isSome = ov.isSome := by
    rcases c with ⟨c1, c2⟩ | ⟨y, z, c1, c2, c3⟩ <;> rw [c1, c2] <;> rfl
  rw [e]
  exact q _ H2 F2 as2 (x1.trans x2) hp2 (.d .bl)
theorem r_inD (hu : X.A.units + 1 < cLine) (hi : PE X i (tE X.K fi)) (ho : PE X o (tE X.K fo)) (hb : behindInMarks .In o = false := by rfl) : PE X (.Compare i [.In] [o] pos) (tE X.K (eInD fi fo)) := PE_imp (pe_cmp (pc_din hu hi ho) hb) inD_read
theorem r_notInD (hu : X.A.units + 1 < cLine) (hi : PE X i (tE X.K fi)) (ho : PE X o (tE X.K fo)) (hb : behindInMarks .NotIn o = false := by rfl) : PE X (.Compare i [.NotIn] [o] pos) (tE X.K (eNotInD fi fo)) := PE_imp (pe_cmp (pc_dnotin hu hi ho) hb) notInD_read
theorem r_inDT (hu : X.A.units + 1 < cLine) (hi : PE X i (tE X.K fi)) (ho : PE X o (tE X.K fo)) (hb : behindInMarks .In o = false := by rfl) : PT X (.Compare i [.In] [o] pos) (tT X.K (tOf (eInD fi fo))) := PT_imp (pt_cmp (pc_din hu hi ho) hb) (test_read inD_read)
theorem r_notInDT (hu : X.A.units + 1 < cLine) (hi : PE X i (tE X.K fi)) (ho : PE X o (tE X.K fo)) (hb : behindInMarks .NotIn o = false := by rfl) : PT X (.Compare i [.NotIn] [o] pos) (tT X.K (tOf (eNotInD fi fo))) := PT_imp (pt_cmp (pc_dnotin hu hi ho) hb) (test_read notInD_read)
end
/-! ### dicts that are made and written -/
def eDicO : Ex := fun _ m => some (.own m.length, m ++ [.dic []])
def eDicTO : Ex := fun _ m => some (.own m.length, m ++ [.dicT []])
def eDic0 : Ex := fun _ m => some (.d (.dic []), m)
section
variable {X : Cx} {pos : Pos}
theorem r_dicO : PE X (.Dict [] [] pos) (tE X.K eDicO) := PE_imp pe_dnewK fun σ H Q h p hn => by
  obtain ⟨ρ, m, F, as, e, m', env, hp, hf, q⟩ := h
  cases hf
  refine q _ _ F ⟨as.c ++ [p], as.g⟩ ⟨Sm.refl _, pre_snoc _ _, rfl⟩ (hp.cellNew hn ⟨hp.sub.free hn, [], upd_same, .nil⟩) (.own ?_)
  rw [← hp.len]
  simp
theorem r_dicTO : PE X (.Dict [] [] pos) (tE X.K eDicTO) := PE_imp pe_dnewT fun σ H Q h p hn => by
  obtain ⟨ρ, m, F, as, e, m', env, hp, hf, q⟩ := h
  cases hf
  refine q _ _ F ⟨as.c ++ [p], as.g⟩ ⟨Sm.refl _, pre_snoc _ _, rfl⟩ (hp.cellNew hn ⟨hp.sub.free hn, [], upd_same, .nil⟩) (.own ?_)
  rw [← hp.len]
  simp
theorem r_dic0 : PE X (.Dict [] [] pos) (tE X.K eDic0) := PE_imp pe_dnewK fun σ H Q h p hn => by
  obtain ⟨ρ, m, F, as, e, m', env, hp, hf, q⟩ := h
  cases hf
  have g := Grow.laid (o := .dK []) hp.sub hn
  exact q _ _ _ as (hp.ext g) (hp.grow g) (.d (.dic upd_same .nil))
end
/-- d[k] = v -/
def sPutD (fo fi fv : Ex) : Sx := fun ρ m => (fv ρ m).bind fun p => (fo ρ p.2).bind fun q => (fi ρ q.2).bind fun r => match q.1 with
  | .own c => (look r.2 r.1).bind fun i => (frzE r.2 p.1).bind fun d => match d.2[c]? with
    | some (.dic kvs) => (keyOf i).bind fun k => if kvs.length < big then some (.nx, ρ, d.2.set c (.dic (putD kvs k d.1))) else none
    | some (.dicT kvs) => (keyT i).bind fun k => if kvs.length < big then some (.nx, ρ, d.2.set c (.dicT (putD kvs k d.1))) else none
    | _ => none
  | _ => none
/-- del d[k] -/
def sDelD (fo fi : Ex) : Sx := fun ρ m => (fo ρ m).bind fun q => (fi ρ q.2).bind fun r => match q.1 with
  | .own c => (look r.2 r.1).bind fun i => match r.2[c]? with
    | some (.dic kvs) => (keyOf i).bind fun k => if (valD kvs k).isSome = true then some (.nx, ρ, r.2.set c (.dic (dropD kvs k))) else none
    | _ => none
  | _ => none
section
variable {X : Cx} {o i e : Expr} {fo fi fv : Ex} {pos pos' : Pos}
theorem r_putD (hu : X.A.units + 1 < cLine) (ho : PE X o (tE X.K fo)) (hi : PE X i (tE X.K fi)) (hv : PE X e (tE X.K fv)) (hs : swapsWith e (some (.Subscript o i pos')) pos.line X.env = pure false) : PS X (.Assign [.Subscript o i pos'] e pos) (tS X.K (sPutD fo fi fv)) :=
  PS_imp (ps_dput hu ho hi hv hs) fun D σ H h => by
    obtain ⟨ρ, m, F, as, fl, ρ', m', env, hp, hf, q⟩ := h
    obtain ⟨⟨e1, m1⟩, g1, hf⟩ := bind2 hf
    obtain ⟨⟨e2, m2⟩, g2, hf⟩ := bind2 hf
    obtain ⟨⟨e3, m3⟩, g3, hf⟩ := bind2 hf
    cases e2 with
    | own c =>
      obtain ⟨k, g4, hf⟩ := bind2 hf
      obtain ⟨⟨d, m4⟩, g5, hf⟩ := bind2 hf
      refine estep env hp g1 fun v1 H1 F1 as1 x1 hp1 env1 r1 => estep env1 hp1 g2 fun v2 H2 F2 as2 x2 hp2 env2 r2 => estep env2 hp2 g3 fun v3 H3 F3 as3 x3 hp3 env3 r3 => ?_
      obtain ⟨F4, x4, hp4, r4⟩ := frzE_ok hp3 (r1.ext (x2.trans x3)) g5
      have r3' := look_rep hp3 r3 g4
      cases r2 with
      | @own a _ r2 =>
        have ra := pre_get x3.2.1 r2
        have xx := x1.trans (x2.trans (x3.trans x4))
        cases w : m4[c]? with
        | none => simp only [w] at hf; cases hf
        | some ob =>
          have y := hp4.cell c a ob ra w
          cases ob with
          | dic kvs =>
            simp only [w] at hf
            obtain ⟨ky, g6, hf⟩ := bind2 hf
            split at hf
            · rename_i z
              cases hf
              obtain ⟨f1, vs, g7, rv⟩ := y
              refine ⟨a, _, rfl, .inl ⟨vs, ky, g7, keyOf_repL r3' g6, by rw [rv.length]; exact big_lt z, rfl⟩, ?_⟩
              exact q σ _ F4 as3 xx (env3.ext x4) (hp4.write ra f1 ⟨f1, _, upd_same, (rv.kp.put ky r4).k⟩)
            · cases hf
          | dicT kvs =>
            simp only [w] at hf
            obtain ⟨ky, g6, hf⟩ := bind2 hf
            split at hf
            · rename_i z
              cases hf
              obtain ⟨f1, vs, g7, rv⟩ := y
              obtain ⟨b, rfl, g8⟩ := keyT_rep hp3.sub r3' g6
              refine ⟨a, _, rfl, .inr ⟨vs, ky, b, g7, rfl, g8, by rw [rv.kp.len]; exact big_lt z, rfl⟩, ?_⟩
              exact q σ _ F4 as3 xx (env3.ext x4) (hp4.write ra f1 ⟨f1, _, upd_same, (rv.kp.put ky r4).t⟩)
            · cases hf
          | lst _ => simp only [w] at hf; cases hf
          | frz _ => simp only [w] at hf; cases hf
    | _ => cases hf
theorem r_delD (ho : PE X o (tE X.K fo)) (hi : PE X i (tE X.K fi)) : PS X (.Delete [.Subscript o i pos'] pos) (tS X.K (sDelD fo fi)) :=
  PS_imp (ps_ddel ho hi) fun D σ H h => by
    obtain ⟨ρ, m, F, as, fl, ρ', m', env, hp, hf, q⟩ := h
    obtain ⟨⟨e2, m2⟩, g2, hf⟩ := bind2 hf
    obtain ⟨⟨e3, m3⟩, g3, hf⟩ := bind2 hf
    cases e2 with
    | own c =>
      obtain ⟨k, g4, hf⟩ := bind2 hf
      refine estep env hp g2 fun v2 H2 F2 as2 x2 hp2 env2 r2 => estep env2 hp2 g3 fun v3 H3 F3 as3 x3 hp3 env3 r3 => ?_
      have r3' := look_rep hp3 r3 g4
      cases r2 with
      | @own a _ r2 =>
        have ra := pre_get x3.2.1 r2
        cases w : m3[c]? with
        | none => simp only [w] at hf; cases hf
        | some ob =>
          have y := hp3.cell c a ob ra w
          cases ob with
          | dic kvs =>
            simp only [w] at hf
            obtain ⟨ky, g6, hf⟩ := bind2 hf
            split at hf
            · rename_i z
              cases hf
              obtain ⟨f1, vs, g7, rv⟩ := y
              have ek := keyOf_repL r3' g6
              refine ⟨a, vs, ky, rfl, g7, ek, ?_, ?_⟩
              · rcases rv.kp.val ky with ⟨_, c2⟩ | ⟨_, _, c1, _⟩
                · rw [c2] at z; cases z
                · rw [c1]; rfl
              · exact q σ _ F3 as3 (x2.trans x3) env3 (hp3.write ra f1 ⟨f1, _, upd_same, (rv.kp.drop ky).k⟩)
            · cases hf
          | dicT _ => simp only [w] at hf; cases hf
          | lst _ => simp only [w] at hf; cases hf
          | frz _ => simp only [w] at hf; cases hf
    | _ => cases hf
end
end PL
/-! PL10: dict comprehensions; the end of a law. -/
namespace PL
open PySem PySem.Spec L2
set_option autoImplicit false

def dcLoop (g : Tg) (tt : Tx) (tk tv : Ex) (ρ : Rho) : List D → List (Key × D) → Store → Option (List (Key × D) × Store)
  | [], acc, m => some (acc, m)
  | x :: xs, acc, m => (g (.d x) ρ).bind fun ρ1 => (tt ρ1 m).bind fun b => if b.1 = true then (tk ρ1 b.2).bind fun y => (tv ρ1 y.2).bind fun z => (look z.2 y.1).bind fun ky => (keyOf ky).bind fun k => (frzE z.2 z.1).bind fun d => if acc.length < big then dcLoop g tt tk tv ρ xs (putD acc k d.1) d.2 else none
    else dcLoop g tt tk tv ρ xs acc b.2
def eDc (it : Ix) (vs : List Nat) (g : Tg) (tt : Tx) (tk tv : Ex) : Ex := fun ρ m => (it ρ m).bind fun p => (dcLoop g tt tk tv (wipeE ρ vs) p.1 [] p.2).bind fun r => some (.d (.dic r.1), r.2)
def eDcO (it : Ix) (vs : List Nat) (g : Tg) (tt : Tx) (tk tv : Ex) : Ex := fun ρ m => (it ρ m).bind fun p => (dcLoop g tt tk tv (wipeE ρ vs) p.1 [] p.2).bind fun r => some (.own r.2.length, r.2 ++ [.dic r.1])
section
variable {K : PySem.W.Frag} {F H : Hp} {c : List Addr} {g : List (Addr × HO)} {m : Store} {L : Addr} {ho : HO}
/-- the made thing is written -/
theorem prot_write (hp : HeapOk K H F ⟨c, (L, ho) :: g⟩ m) (ho' : HO) : HeapOk K (upd H L ho') F ⟨c, (L, ho') :: g⟩ m := by
  obtain ⟨p1, p2, p3⟩ := hp.prot (L, ho) List.mem_cons_self
  refine ⟨fun a u q => ?_, hp.len, hp.nd, fun a q => ?_, fun c' a u q1 q2 => ?_, fun p hq => ?_, hp.pnd⟩
  · rw [upd_ne (fun z => by rw [z, p2] at q; cases q)]; exact hp.sub a u q
  · rw [upd_ne (fun z => p3 (by rw [← z]; exact q))]; exact hp.there a q
  · have na : a ≠ L := fun z => p3 (by rw [← z]; exact List.mem_of_getElem? q1)
    have z := hp.cell c' a u q1 q2
    cases u with
    | lst ds => obtain ⟨y1, z, vs, y2, y3⟩ := z; exact ⟨y1, z, vs, by rw [upd_ne na]; exact y2, y3⟩
    | dic ds => obtain ⟨y1, vs, y2, y3⟩ := z; exact ⟨y1, vs, by rw [upd_ne na]; exact y2, y3⟩
    | dicT ds => obtain ⟨y1, vs, y2, y3⟩ := z; exact ⟨y1, vs, by rw [upd_ne na]; exact y2, y3⟩
    | frz d => exact z
  · rcases List.mem_cons.mp hq with rfl | hq
    · exact ⟨upd_same, p2, p3⟩
    · obtain ⟨q1, q2, q3⟩ := hp.prot p (List.mem_cons_of_mem _ hq)
      have np : p.1 ≠ L := fun z => (List.nodup_cons.mp hp.pnd).1 (List.mem_map.mpr ⟨p, hq, z⟩)
      exact ⟨by rw [upd_ne np]; exact q1, q2, q3⟩
/-- a new thing is protected -/
theorem prot_new {as : Cs} (hp : HeapOk K H F as m) (hD : H L = none) : HeapOk K (upd H L ho) F ⟨as.c, (L, ho) :: as.g⟩ m := by
  have ne : ∀ a, H a ≠ none → a ≠ L := fun a q z => q (by rw [z]; exact hD)
  have nc : L ∉ as.c := fun z => hp.there L z hD
  refine ⟨fun a u q => by rw [upd_ne (ne a (hp.sub.there q))]; exact hp.sub a u q, hp.len, hp.nd, fun a q => by rw [upd_ne (ne a (hp.there a q))]; exact hp.there a q, fun c a u q1 q2 => ?_, fun p hq => ?_, ?_⟩
  · have na := ne a (hp.there a (List.mem_of_getElem? q1))
    have z := hp.cell c a u q1 q2
    cases u with
    | lst ds => obtain ⟨y1, z, vs, y2, y3⟩ := z; exact ⟨y1, z, vs, by rw [upd_ne na]; exact y2, y3⟩
    | dic ds => obtain ⟨y1, vs, y2, y3⟩ := z; exact ⟨y1, vs, by rw [upd_ne na]; exact y2, y3⟩
    | dicT ds => obtain ⟨y1, vs, y2, y3⟩ := z; exact ⟨y1, vs, by rw [upd_ne na]; exact y2, y3⟩
    | frz d => exact z
  · rcases List.mem_cons.mp hq with rfl | hq
    · exact ⟨upd_same, hp.sub.free hD, nc⟩
    · obtain ⟨p1, p2, p3⟩ := hp.prot p hq
      exact ⟨by rw [upd_ne (ne p.1 (by rw [p1]; simp))]; exact p1, p2, p3⟩
  · show (L :: as.g.map (·.1)).Nodup
    refine List.nodup_cons.mpr ⟨fun z => ?_, hp.pnd⟩
    obtain ⟨p, hq, e⟩ := List.mem_map.mp z
    have e1 := (hp.prot p hq).1
    rw [e, hD] at e1
    cases e1
/-- the made thing becomes data -/
theorem prot_frz (hp : HeapOk K H F ⟨c, (L, ho) :: g⟩ m) : Sm F (upd F L ho) ∧ HeapOk K H (upd F L ho) ⟨c, g⟩ m := by
  obtain ⟨p1, p2, p3⟩ := hp.prot (L, ho) List.mem_cons_self
  have sm : Sm F (upd F L ho) := Sm.updF p2
  refine ⟨sm, ⟨fun b u q => ?_, hp.len, hp.nd, hp.there, fun c' b u q1 q2 => ?_, fun p hq => ?_, (List.nodup_cons.mp hp.pnd).2⟩⟩
  · by_cases e : b = L
    · subst e
      rw [upd_same] at q
      cases q
      exact .inl p1
    · rw [upd_ne e] at q
      exact hp.sub b u q
  · have nb : b ≠ L := fun z => p3 (by rw [← z]; exact List.mem_of_getElem? q1)
    have y := hp.cell c' b u q1 q2
    cases u with
    | lst ds => obtain ⟨y1, z, vs, y2, y3⟩ := y; exact ⟨by rw [upd_ne nb]; exact y1, z, vs, y2, y3.mono sm⟩
    | dic ds => obtain ⟨y1, vs, y2, y3⟩ := y; exact ⟨by rw [upd_ne nb]; exact y1, vs, y2, y3.mono sm⟩
    | dicT ds => obtain ⟨y1, vs, y2, y3⟩ := y; exact ⟨by rw [upd_ne nb]; exact y1, vs, y2, y3.mono sm⟩
    | frz d' => exact Rep.mono sm y
  · obtain ⟨q1, q2, q3⟩ := hp.prot p (List.mem_cons_of_mem _ hq)
    exact ⟨q1, by rw [upd_ne (fun z => (List.nodup_cons.mp hp.pnd).1 (List.mem_map.mpr ⟨p, hq, z⟩))]; exact q2, q3⟩
/-- .. a cell -/
theorem prot_cell {o : O} (hp : HeapOk K H F ⟨c, (L, ho) :: g⟩ m) (y : CellOk K H F L o) : HeapOk K H F ⟨c ++ [L], g⟩ (m ++ [o]) := by
  obtain ⟨p1, p2, p3⟩ := hp.prot (L, ho) List.mem_cons_self
  have hl : c.length = m.length := hp.len
  refine ⟨hp.sub, by show (c ++ [L]).length = _; rw [List.length_append, List.length_append, hl]; rfl, ?_, fun a q => ?_, fun c' b u q1 q2 => ?_, fun p hq => ?_, (List.nodup_cons.mp hp.pnd).2⟩
  · show (c ++ [L]).Nodup
    rw [List.nodup_append]
    refine ⟨hp.nd, by simp, fun a ha b hb => ?_⟩
    have e : b = L := by simpa using hb
    rw [e]
    exact fun z => p3 (by rw [← z]; exact ha)
  · rcases List.mem_append.mp q with q | q
    · exact hp.there a q
    · have e : a = L := by simpa using q
      rw [e, p1]; simp
  · have q1 : (c ++ [L])[c']? = some b := q1
    by_cases hc : c' < c.length
    · rw [List.getElem?_append_left hc] at q1
      rw [List.getElem?_append_left (by rw [← hl]; exact hc)] at q2
      exact hp.cell c' b u q1 q2
    · rw [List.getElem?_append_right (by omega)] at q1
      rw [List.getElem?_append_right (by rw [← hl]; omega)] at q2
      rw [← hl] at q2
      cases k : c' - c.length with
      | zero =>
        rw [k] at q1 q2
        simp at q1 q2
        subst q1 q2
        exact y
      | succ j => rw [k] at q1; simp at q1
  · obtain ⟨q1, q2, q3⟩ := hp.prot p (List.mem_cons_of_mem _ hq)
    refine ⟨q1, q2, fun z => ?_⟩
    rcases List.mem_append.mp z with z | z
    · exact q3 z
    · exact (List.nodup_cons.mp hp.pnd).1 (List.mem_map.mpr ⟨p, hq, by simpa using z⟩)
end
theorem dc_main {K : PySem.W.Frag} {J : It} {g : TG} {tg : Tg} {tt : Tx} {tk tv : Ex} {vs : List Nat} {σ : L2.St} {H F : Hp} {as : Cs} {m m' : Store} {ρ : Rho} {xs : List D} {ds : List (Key × D)} {L : Addr} {Q : VK}
    (hg : TgOk K g tg vs) (env : EnvOk K F as σ ρ) (hp : HeapOk K H F as m) (wk : Walks K J F xs) (hf : dcLoop tg tt tk tv (wipeE ρ vs) xs [] m = some (ds, m')) (hD : H L = none)
    (q : ∀ (H' F' : Hp) (c' : List Addr) (vs' : List (Key × V)), Sm F F' → as.c <+: c' → KReps K F' vs' ds → HeapOk K H' F' ⟨c', (L, .dK vs') :: as.g⟩ m' → Q (.ref L) H') :
    ∃ W : Nat → Nat → Hp → Prop, (∃ n, W 0 n (upd H L (.dK []))) ∧ ∀ i n H, W i n H →
  (J.stop i H ∧ Q (.ref L) H) ∨ (J.go i H ∧ ∃ Nx : Hp → Prop, (∀ H', Nx H' → ∃ n', n' < n ∧ W (i + 1) n' H') ∧ ∀ x H', J.yld i H x H' → g x (wipe σ vs) H' fun σ2 H2 => wipe σ2 vs = wipe σ vs ∧ tT K tt σ2 H2 fun b H3 =>
    if b = true then tE K tk σ2 H3 fun y H4 => tE K tv σ2 H4 fun z H5 => ∃ kvs k, y = kV k ∧ H5 L = some (.dK kvs) ∧ kvs.length < sizeLine ∧ Nx (upd H5 L (.dK (putK kvs k z))) else Nx H3) := by
  refine ⟨fun i n H1 => n = xs.length - i ∧ i ≤ xs.length ∧ ∃ (F1 : Hp) (c1 : List Addr) (m1 : Store) (acc : List (Key × V)) (d1 : List (Key × D)), Sm F F1 ∧ as.c <+: c1 ∧ KReps K F1 acc d1 ∧ HeapOk K H1 F1 ⟨c1, (L, .dK acc) :: as.g⟩ m1 ∧ dcLoop tg tt tk tv (wipeE ρ vs) (xs.drop i) d1 m1 = some (ds, m'),
    ⟨_, rfl, Nat.zero_le _, F, as.c, m, [], [], Sm.refl F, List.prefix_refl _, .nil, prot_new hp hD, hf⟩, ?_⟩
  rintro i n H1 ⟨rfl, hi, F1, c1, m1, acc, d1, s1, pc, ra, hp1, hl⟩
  obtain ⟨w1, w2⟩ := wk.2 F1 _ m1 H1 s1 hp1 i
  by_cases hlt : i < xs.length
  · obtain ⟨hgo, hy⟩ := w2 xs[i] (List.getElem?_eq_getElem hlt)
    refine .inr ⟨hgo, fun H' => ∃ (F1 : Hp) (c1 : List Addr) (m1 : Store) (acc : List (Key × V)) (d1 : List (Key × D)), Sm F F1 ∧ as.c <+: c1 ∧ KReps K F1 acc d1 ∧ HeapOk K H' F1 ⟨c1, (L, .dK acc) :: as.g⟩ m1 ∧ dcLoop tg tt tk tv (wipeE ρ vs) (xs.drop (i + 1)) d1 m1 = some (ds, m'),
      fun H' h => ⟨_, by omega, rfl, hlt, h⟩, fun x H' hx => ?_⟩
    obtain ⟨F2, gr, rx⟩ := hy x H' hx
    have hp2 := hp1.grow gr
    have s2 := gr.same hp1.sub
    have env2 : EnvOk K F2 ⟨c1, (L, .dK acc) :: as.g⟩ (wipe σ vs) (wipeE ρ vs) := by
      refine ⟨(env.wipe vs).len, fun j e h => ?_⟩
      obtain ⟨v, a, b⟩ := (env.wipe vs).get j e h
      refine ⟨v, a, ?_⟩
      have sm := s1.trans s2
      cases b with
      | d r => exact .d (r.mono sm)
      | own r => exact .own (pre_get pc r)
      | deal d1 d2 z d3 => exact .deal (sm.ex rfl d1) (sm.ex rfl d2) z (pre_get pc d3)
    rw [List.drop_eq_getElem_cons hlt] at hl
    obtain ⟨ρ1, h1, hl⟩ := bind2 hl
    obtain ⟨⟨b, m2⟩, h2, hl⟩ := bind2 hl
    refine hg.run env2 hp2 (.d rx) h1 fun σ' env3 l3 s3 => ⟨wipe_eq l3 s3, ?_⟩
    refine tstep env3 hp2 h2 fun H3 F3 as3 x3 hp3 env4 => ?_
    obtain ⟨c3, g3⟩ := as3
    obtain ⟨x31, x32, x33⟩ := x3
    have eg : g3 = (L, .dK acc) :: as.g := x33
    subst eg
    cases b with
    | false => exact ⟨F3, c3, m2, acc, d1, (s1.trans s2).trans x31, pc.trans x32, (ra.mono s2).mono x31, hp3, hl⟩
    | true =>
      obtain ⟨⟨y, m3⟩, h3, hl⟩ := bind2 hl
      obtain ⟨⟨z, m4⟩, h4, hl⟩ := bind2 hl
      obtain ⟨ky, h5, hl⟩ := bind2 hl
      obtain ⟨k, h6, hl⟩ := bind2 hl
      obtain ⟨⟨d, m5⟩, h7, hl⟩ := bind2 hl
      split at hl
      · rename_i hz
        refine estep env4 hp3 h3 fun yv H4 F4 as4 x4 hp4 env5 ry => estep env5 hp4 h4 fun zv H5 F5 as5 x5 hp5 env6 rz => ?_
        have rk := look_rep hp5 (ry.ext x5) h5
        obtain ⟨c5, g5⟩ := as5
        obtain ⟨x51, x52, x53⟩ := x4.trans x5
        have eg : g5 = (L, .dK acc) :: as.g := x53
        subst eg
        obtain ⟨F6, x6, hp6, rd⟩ := frzE_ok hp5 rz h7
        have sF : Sm F1 F6 := ((s2.trans x31).trans x51).trans x6.1
        have pr := hp6.prot (L, .dK acc) List.mem_cons_self
        refine ⟨acc, k, keyOf_repL rk h6, pr.1, by rw [ra.length]; exact big_lt hz, F6, c5, m5, putK acc k zv, putD d1 k d, s1.trans sF, (pc.trans x32).trans x52, ((ra.mono sF).kp.put k rd).k, prot_write hp6 _, hl⟩
      · cases hl
  · have e : i = xs.length := by omega
    subst e
    rw [List.drop_length] at hl
    cases hl
    exact .inl ⟨w1 (Nat.le_refl _), q H1 F1 c1 acc s1 pc ra hp1⟩
section
variable {X : Cx} {scope : Scope} {own : List (Str × Nat)} {it : Ix} {g : TG} {tgm : Tg} {tt : Tx} {tk tv : Ex}
theorem dc_read (hg : TgOk X.K g tgm (own.map (·.2))) : ∀ σ H Q, tE X.K (eDc it (own.map (·.2)) tgm tt tk tv) σ H Q → tDc (tI X.K it) g (tT X.K tt) (tE X.K tk) (tE X.K tv) (own.map (·.2)) σ H Q := by
  intro σ H Q h
  obtain ⟨ρ, m, F, as, e, m', env, hp, hf, q⟩ := h
  obtain ⟨⟨xs, m1⟩, h1, hf⟩ := bind2 hf
  obtain ⟨⟨ds, m2⟩, h2, hf⟩ := bind2 hf
  cases hf
  refine ⟨ρ, m, F, as, xs, m1, env, hp, h1, fun J H1 F1 as1 x1 hp1 wk L hL => ?_⟩
  refine dc_main hg (env.ext x1) hp1 wk h2 hL fun H2 F2 c2 vs2 s2 p2 r2 hp2 => ?_
  obtain ⟨s3, hp3⟩ := prot_frz hp2
  exact q _ _ _ ⟨c2, as1.g⟩ (x1.trans ⟨s2.trans s3, p2, rfl⟩) hp3 (.d (.dic upd_same (r2.mono s3)))
theorem dcO_read (hg : TgOk X.K g tgm (own.map (·.2))) : ∀ σ H Q, tE X.K (eDcO it (own.map (·.2)) tgm tt tk tv) σ H Q → tDc (tI X.K it) g (tT X.K tt) (tE X.K tk) (tE X.K tv) (own.map (·.2)) σ H Q := by
  intro σ H Q h
  obtain ⟨ρ, m, F, as, e, m', env, hp, hf, q⟩ := h
  obtain ⟨⟨xs, m1⟩, h1, hf⟩ := bind2 hf
  obtain ⟨⟨ds, m2⟩, h2, hf⟩ := bind2 hf
  cases hf
  refine ⟨ρ, m, F, as, xs, m1, env, hp, h1, fun J H1 F1 as1 x1 hp1 wk L hL => ?_⟩
  refine dc_main hg (env.ext x1) hp1 wk h2 hL fun H2 F2 c2 vs2 s2 p2 r2 hp2 => ?_
  obtain ⟨p1, p3, p4⟩ := hp2.prot (L, .dK vs2) List.mem_cons_self
  refine q _ _ _ ⟨c2 ++ [L], as1.g⟩ (x1.trans ⟨s2, p2.trans (pre_snoc _ _), rfl⟩) (prot_cell hp2 ⟨p3, vs2, p1, r2⟩) (.own ?_)
  have e := hp2.len
  show (c2 ++ [L])[m2.length]? = some L
  rw [← e]
  simp
end
/-! ### the end of a law -/
def spLaw : PySem.W.Frag → Sp := fun K vs H Q _ => ∃ (a : Addr) (ns : List Int), vs = [.ref a] ∧ SqL K H a (ns.map V.int) ∧ ns.length ≤ 63 ∧ ∀ H', Q (.bl true) H'
theorem law_imp {K : PySem.W.Frag} {f : Fx} (h : ∀ ns : List Int, ns.length ≤ 63 → ∃ m', f [.d (.scr ns)] [] = some (.d (.bl true), m')) : ∀ vs H Q E, spLaw K vs H Q E → spD K 1 f vs H Q E := by
  rintro vs H Q E ⟨a, ns, rfl, hS, hl, q⟩
  obtain ⟨m', hf⟩ := h ns hl
  refine ⟨rfl, [.d (.scr ns)], [], H, ⟨[], []⟩, _, m', .cons (.d (.scr hS (by rw [sizeLine_eq]; omega))) .nil, ⟨fun a o h => .inl h, rfl, List.nodup_nil, fun a h => (nomatch h), fun c a o h => by simp at h, fun p h => (nomatch h), List.nodup_nil⟩, hf, fun v H' F' as' x hp r => ?_⟩
  cases r with
  | d r => cases r; exact q H'
end PL
/-! PL11: the rules in the forms that a printed derivation takes. -/
namespace PL
open PySem PySem.Spec L2
set_option autoImplicit false
@[irreducible] def wN : Nat := 1000000
theorem wN_big : wN = 1000000 := by unfold wN; rfl
section
variable {X : Cx} {x : Str} {pos pos' : Pos} {e tg iter : Expr} {f : Ex} {it : Ix} {body : List Stmt} {fb : Sx}
theorem r_glob {v : V} {d : D} (hg : Gl X x) (hm : ∃ u, X.mg x = some u ∧ RelV v u) (r : ∀ F : Hp, Rep X.K F v d) (hd : (x == ("__debug__" : Str)) = false := by decide) : PE X (.Name x pos) (tE X.K (eC d)) := by
  obtain ⟨u, h1, h2⟩ := hm
  exact r_const (pe_glob hg h1 h2 hd) r
theorem r_set {i : Nat} (hN : X.N.Nodup) (hi : X.N[i]? = some x) (hx : Loc X.env.scope x) (he : PE X e (tE X.K f)) (hs : swapsWith e (some (.Name x pos')) pos.line X.env = pure false) (hf : X.fn x = true ∨ X.env.scope.names.lookup x = some .local) :
    PS X (.Assign [.Name x pos'] e pos) (tS X.K (sSet i f)) := PS_imp (ps_set hN hi hx he hs hf) (asg_read (tgOk_name (vs := [i]) (List.mem_singleton.mpr rfl)))
theorem r_asgT {es : List Expr} {k : Nat} {is : List Nat} {tpos : Pos} (hc : X.calm = true) (he : PE X e (tE X.K f)) (hg : PGs X es (gNames is)) (hn : (assignEach es X.env).length = is.length := by rfl) (hst : (assignEach es X.env).findIdx? (·.1) = none := by rfl)
    (hs : swapsWithSole [.Tuple es k tpos] e pos.line X.env = pure false := by rfl) (hw : swappedStores [.Tuple es k tpos] e X.env = pure none := by rfl)
    (h1 : (assignEach [.Tuple es k tpos] X.env).map (·.2) = [assign (.Tuple es k tpos) X.env] := by rfl) : PS X (.Assign [.Tuple es k tpos] e pos) (tS X.K (sAsg f (tgTup is))) :=
  PS_imp (ps_asg he (pg_seqs hc hg hn hst) hs hw h1) (asg_read (tgOk_tup rfl fun i hi => hi))
theorem r_for {gt : TG} {tgm : Tg} {vs : List Nat} (hp : PassesOwn (model X.prog X.w) X.A X.env X.xe) (hc : X.calm = true) (hi : PI X tg iter (tI X.K it)) (hg : PG X tg gt) (ht : TgOk X.K gt tgm vs) (hb : PSs X body (tS X.K fb)) (hs : ∀ x, foldedSetIterable iter X.env x = pure x := by intro _; rfl) :
    PS X (.For tg iter body [] pos) (tS X.K (sFor it tgm fb)) := PS_imp (ps_for hp hc hi hg hb hs) (for_read ht)
theorem r_while {c : Expr} {ft : Tx} {N : Nat} (hp : PassesOwn (model X.prog X.w) X.A X.env X.xe) (hc : PT X c (tT X.K ft)) (hb : PSs X body (tS X.K fb)) : PS X (.While c body [] pos) (tS X.K (sWhile N ft fb)) := PS_imp (ps_while hp hc hb) while_read
/-- a target of names -/
theorem g_tup {es : List Expr} {k : Nat} {is : List Nat} {tpos : Pos} (hc : X.calm = true) (h : PGs X es (gNames is)) (hn : (assignEach es X.env).length = is.length := by rfl) (hst : (assignEach es X.env).findIdx? (·.1) = none := by rfl) : PG X (.Tuple es k tpos) (gSeqs X.K is.length (gNames is)) := pg_seqs hc h hn hst
theorem PTs_imp {X : Cx} {ifs : List Expr} {t t' : TT} (h : PTs X ifs t) (i : ∀ σ H Q, t' σ H Q → t σ H Q) : PTs X ifs t' := ⟨fun pins s σ H Q I q => h.run pins s σ H Q I (i σ H Q q)⟩
theorem r_ifs0 : PTs X [] (tT X.K tTrue) := PTs_imp pts_nil fun σ H Q h => by
  obtain ⟨ρ, m, F, as, b, m', env, hp, hf, q⟩ := h
  cases hf
  exact q H F as .refl hp
theorem r_ifs1 {c : Expr} {ft : Tx} (h : PT X c (tT X.K ft)) : PTs X [c] (tT X.K ft) := pts_one h
section
variable {elt kx vx : Expr} {ifs : List Expr} {scope : Scope} {own : List (Str × Nat)} {gt : TG} {tgm : Tg} {tt : Tx} {te tk tv : Ex} {spos py : Pos} {y : Str}
theorem r_lc (hc : X.calm = true) (hN : X.N.Nodup) (hi : PI X tg iter (tI X.K it)) (ok : BlkOk X.N X.env.scope scope own) (hgt : TgOk X.K gt tgm (own.map (·.2)))
    (hg : ∀ (s : Shared) (H : Hp) (C : Addr) (cl : List (Str × Addr)) (fp : List Addr), PG (X.blk s H scope (PySem.compEnvC scope cl C X.env) fp) tg gt) (ht : ∀ (s : Shared) (H : Hp) (C : Addr) (cl : List (Str × Addr)) (fp : List Addr), PTs (X.blk s H scope (PySem.compEnvC scope cl C X.env) fp) ifs (tT X.K tt))
    (he : ∀ (s : Shared) (H : Hp) (C : Addr) (cl : List (Str × Addr)) (fp : List Addr), PE (X.blk s H scope (PySem.compEnvC scope cl C X.env) fp) elt (tE X.K te)) (hs : ∀ x, foldedSetIterable iter X.env x = pure x := by intro _; rfl) :
    PE X (.ListComp elt [⟨tg, iter, ifs, 0⟩] scope pos) (tE X.K (eLc it (own.map (·.2)) tgm tt te)) := PE_imp (pe_lc hc hN hi ok hg ht he hs) (lc_read hgt)
theorem r_lcO (hc : X.calm = true) (hN : X.N.Nodup) (hi : PI X tg iter (tI X.K it)) (ok : BlkOk X.N X.env.scope scope own) (hgt : TgOk X.K gt tgm (own.map (·.2)))
    (hg : ∀ (s : Shared) (H : Hp) (C : Addr) (cl : List (Str × Addr)) (fp : List Addr), PG (X.blk s H scope (PySem.compEnvC scope cl C X.env) fp) tg gt) (ht : ∀ (s : Shared) (H : Hp) (C : Addr) (cl : List (Str × Addr)) (fp : List Addr), PTs (X.blk s H scope (PySem.compEnvC scope cl C X.env) fp) ifs (tT X.K tt))
    (he : ∀ (s : Shared) (H : Hp) (C : Addr) (cl : List (Str × Addr)) (fp : List Addr), PE (X.blk s H scope (PySem.compEnvC scope cl C X.env) fp) elt (tE X.K te)) (hs : ∀ x, foldedSetIterable iter X.env x = pure x := by intro _; rfl) :
    PE X (.ListComp elt [⟨tg, iter, ifs, 0⟩] scope pos) (tE X.K (eLcO it (own.map (·.2)) tgm tt te)) := PE_imp (pe_lc hc hN hi ok hg ht he hs) (lcO_read hgt)
theorem r_setLc {i : Nat} (hc : X.calm = true) (hN : X.N.Nodup) (hy : X.N[i]? = some y) (hyl : X.env.scope.names.lookup y = some .local)
    (hsw : swapsWith (.ListComp elt [⟨tg, iter, ifs, 0⟩] scope pos) (some (.Name y py)) spos.line X.env = pure true) (hi : PI X tg iter (tI X.K it)) (ok : BlkOk X.N X.env.scope scope own) (hgt : TgOk X.K gt tgm (own.map (·.2)))
    (hg : ∀ (s : Shared) (H : Hp) (C : Addr) (cl : List (Str × Addr)) (fp : List Addr), PG (X.blk s H scope (PySem.compEnvC scope cl C X.env) fp) tg gt) (ht : ∀ (s : Shared) (H : Hp) (C : Addr) (cl : List (Str × Addr)) (fp : List Addr), PTs (X.blk s H scope (PySem.compEnvC scope cl C X.env) fp) ifs (tT X.K tt))
    (he : ∀ (s : Shared) (H : Hp) (C : Addr) (cl : List (Str × Addr)) (fp : List Addr), PE (X.blk s H scope (PySem.compEnvC scope cl C X.env) fp) elt (tE X.K te)) (hs : ∀ x, foldedSetIterable iter X.env x = pure x := by intro _; rfl) :
    PS X (.Assign [.Name y py] (.ListComp elt [⟨tg, iter, ifs, 0⟩] scope pos) spos) (tS X.K (sSet i (eLc it (own.map (·.2)) tgm tt te))) :=
  PS_imp (PS_imp (ps_setLc hc hN hy hyl hsw hi ok hg ht he hs) fun D σ H h => lc_read hgt σ H _ h) (asg_read (tgOk_name (vs := [i]) (List.mem_singleton.mpr rfl)))
theorem r_setLcO {i : Nat} (hc : X.calm = true) (hN : X.N.Nodup) (hy : X.N[i]? = some y) (hyl : X.env.scope.names.lookup y = some .local)
    (hsw : swapsWith (.ListComp elt [⟨tg, iter, ifs, 0⟩] scope pos) (some (.Name y py)) spos.line X.env = pure true) (hi : PI X tg iter (tI X.K it)) (ok : BlkOk X.N X.env.scope scope own) (hgt : TgOk X.K gt tgm (own.map (·.2)))
    (hg : ∀ (s : Shared) (H : Hp) (C : Addr) (cl : List (Str × Addr)) (fp : List Addr), PG (X.blk s H scope (PySem.compEnvC scope cl C X.env) fp) tg gt) (ht : ∀ (s : Shared) (H : Hp) (C : Addr) (cl : List (Str × Addr)) (fp : List Addr), PTs (X.blk s H scope (PySem.compEnvC scope cl C X.env) fp) ifs (tT X.K tt))
    (he : ∀ (s : Shared) (H : Hp) (C : Addr) (cl : List (Str × Addr)) (fp : List Addr), PE (X.blk s H scope (PySem.compEnvC scope cl C X.env) fp) elt (tE X.K te)) (hs : ∀ x, foldedSetIterable iter X.env x = pure x := by intro _; rfl) :
    PS X (.Assign [.Name y py] (.ListComp elt [⟨tg, iter, ifs, 0⟩] scope pos) spos) (tS X.K (sSet i (eLcO it (own.map (·.2)) tgm tt te))) :=
  PS_imp (PS_imp (ps_setLc hc hN hy hyl hsw hi ok hg ht he hs) fun D σ H h => lcO_read hgt σ H _ h) (asg_read (tgOk_name (vs := [i]) (List.mem_singleton.mpr rfl)))
theorem r_dc (hc : X.calm = true) (hN : X.N.Nodup) (hi : PI X tg iter (tI X.K it)) (ok : BlkOk X.N X.env.scope scope own) (hgt : TgOk X.K gt tgm (own.map (·.2)))
    (hg : ∀ (s : Shared) (H : Hp) (C : Addr) (cl : List (Str × Addr)) (fp : List Addr), PG (X.blk s H scope (PySem.compEnvC scope cl C X.env) fp) tg gt) (ht : ∀ (s : Shared) (H : Hp) (C : Addr) (cl : List (Str × Addr)) (fp : List Addr), PTs (X.blk s H scope (PySem.compEnvC scope cl C X.env) fp) ifs (tT X.K tt))
    (hk : ∀ (s : Shared) (H : Hp) (C : Addr) (cl : List (Str × Addr)) (fp : List Addr), PE (X.blk s H scope (PySem.compEnvC scope cl C X.env) fp) kx (tE X.K tk))
    (he : ∀ (s : Shared) (H : Hp) (C : Addr) (cl : List (Str × Addr)) (fp : List Addr), PE (X.blk s H scope (PySem.compEnvC scope cl C X.env) fp) vx (tE X.K tv)) (hs : ∀ x, foldedSetIterable iter X.env x = pure x := by intro _; rfl) :
    PE X (.DictComp kx vx [⟨tg, iter, ifs, 0⟩] scope pos) (tE X.K (eDc it (own.map (·.2)) tgm tt tk tv)) := PE_imp (pe_dc hc hN hi ok hg ht hk he hs) (dc_read hgt)
theorem r_dcO (hc : X.calm = true) (hN : X.N.Nodup) (hi : PI X tg iter (tI X.K it)) (ok : BlkOk X.N X.env.scope scope own) (hgt : TgOk X.K gt tgm (own.map (·.2)))
    (hg : ∀ (s : Shared) (H : Hp) (C : Addr) (cl : List (Str × Addr)) (fp : List Addr), PG (X.blk s H scope (PySem.compEnvC scope cl C X.env) fp) tg gt) (ht : ∀ (s : Shared) (H : Hp) (C : Addr) (cl : List (Str × Addr)) (fp : List Addr), PTs (X.blk s H scope (PySem.compEnvC scope cl C X.env) fp) ifs (tT X.K tt))
    (hk : ∀ (s : Shared) (H : Hp) (C : Addr) (cl : List (Str × Addr)) (fp : List Addr), PE (X.blk s H scope (PySem.compEnvC scope cl C X.env) fp) kx (tE X.K tk))
    (he : ∀ (s : Shared) (H : Hp) (C : Addr) (cl : List (Str × Addr)) (fp : List Addr), PE (X.blk s H scope (PySem.compEnvC scope cl C X.env) fp) vx (tE X.K tv)) (hs : ∀ x, foldedSetIterable iter X.env x = pure x := by intro _; rfl) :
    PE X (.DictComp kx vx [⟨tg, iter, ifs, 0⟩] scope pos) (tE X.K (eDcO it (own.map (·.2)) tgm tt tk tv)) := PE_imp (pe_dc hc hN hi ok hg ht hk he hs) (dcO_read hgt)
end
end
/-! #### the single operators -/
section
variable {X : Cx} {a b c : Expr} {fa fb fc : Ex} {pos : Pos}
theorem q_add (ha : PE X a (tE X.K fa)) (hb : PE X b (tE X.K fb)) : PE X (.BinOp a .Add b pos) (tE X.K (eBin (g2 opAdd) fa fb)) := r_op op_addA d_add.r2 ha hb
theorem q_sub (ha : PE X a (tE X.K fa)) (hb : PE X b (tE X.K fb)) : PE X (.BinOp a .Sub b pos) (tE X.K (eBin (g2 opSub) fa fb)) := r_op op_sub d_sub.r2 ha hb
theorem q_mul (ha : PE X a (tE X.K fa)) (hb : PE X b (tE X.K fb)) : PE X (.BinOp a .Mult b pos) (tE X.K (eBin (g2 opMulA) fa fb)) := r_op op_mulA d_mulA.r2 ha hb
theorem q_div (ha : PE X a (tE X.K fa)) (hb : PE X b (tE X.K fb)) : PE X (.BinOp a .FloorDiv b pos) (tE X.K (eBin (g2 opDiv) fa fb)) := r_op op_fdiv d_div.r2 ha hb
theorem q_mod (ha : PE X a (tE X.K fa)) (hb : PE X b (tE X.K fb)) : PE X (.BinOp a .Mod b pos) (tE X.K (eBin (g2 opMod) fa fb)) := r_op op_mod d_mod.r2 ha hb
theorem q_pow (ha : PE X a (tE X.K fa)) (hb : PE X b (tE X.K fb)) : PE X (.BinOp a .Pow b pos) (tE X.K (eBin (g2 opPow) fa fb)) := r_op op_pow d_pow.r2 ha hb
theorem q_ix (ha : PE X a (tE X.K fa)) (hb : PE X b (tE X.K fb)) (hs : PlainIx b := by intro _ _; rfl) : PE X (.Subscript a b pos) (tE X.K (eBin gIx fa fb)) := r_ix ix_seq d_ixA ha hb hs
end
/-- the comparisons: an operator with its reading -/
structure CmpR (X : Cx) (op : CmpOp) (g : G2) : Prop where
  ex : ∃ r, OpR X (compareOp op) r ∧ R2Ok X.K r g
section
variable {X : Cx} {a b c : Expr} {fa fb fc : Ex} {pos : Pos} {op op' : CmpOp} {g g' : G2}
theorem c_lt : CmpR X .Lt (g2 opLt) := ⟨_, op_lt, d_lt.r2⟩
theorem c_le : CmpR X .LtE (g2 opLe) := ⟨_, op_le, d_le.r2⟩
theorem c_gt : CmpR X .Gt (g2 opGt) := ⟨_, op_gt, d_gt.r2⟩
theorem c_ge : CmpR X .GtE (g2 opGe) := ⟨_, op_ge, d_ge.r2⟩
theorem c_eq (hu : X.A.units + 64 < cLine) : CmpR X .Eq (g2 opEqA) := ⟨_, op_eqA hu, d_eqA.r2⟩
theorem c_ne (hu : X.A.units + 64 < cLine) : CmpR X .NotEq (g2 opNeA) := ⟨_, op_neA hu, d_neA.r2⟩
theorem c_in (hu : X.A.units + 65 < cLine) : CmpR X .In (g2 opIn) := ⟨_, op_inT hu, d_in.r2⟩
theorem c_nin (hu : X.A.units + 65 < cLine) : CmpR X .NotIn (g2 opNotIn) := ⟨_, op_notInT hu, d_notIn.r2⟩
theorem c_is : CmpR X .Is (g2 opIsN) := ⟨_, op_isN, d_isN.r2⟩
theorem c_isnt : CmpR X .IsNot (g2 opNotN) := ⟨_, op_notN, d_notN.r2⟩
theorem q_cmp (h : CmpR X op g) (ha : PE X a (tE X.K fa)) (hb : PE X b (tE X.K fb)) (hm : behindInMarks op b = false := by rfl) : PE X (.Compare a [op] [b] pos) (tE X.K (eBin g fa fb)) := by
  obtain ⟨r, h1, h2⟩ := h.ex
  exact r_cmp h1 h2 ha hb hm
theorem q_cmpT (h : CmpR X op g) (ha : PE X a (tE X.K fa)) (hb : PE X b (tE X.K fb)) (hm : behindInMarks op b = false := by rfl) : PT X (.Compare a [op] [b] pos) (tT X.K (tOf (eBin g fa fb))) := by
  obtain ⟨r, h1, h2⟩ := h.ex
  exact r_cmpT h1 h2 ha hb hm
theorem q_chain (h : CmpR X op g) (h' : CmpR X op' g') (ha : PE X a (tE X.K fa)) (hb : PE X b (tE X.K fb)) (hc : PE X c (tE X.K fc)) (hm : lastMarks [op, op'] [b, c] = false := by with_unfolding_all rfl) : PE X (.Compare a [op, op'] [b, c] pos) (tE X.K (eChain g g' fa fb fc)) := by
  obtain ⟨r, h1, h2⟩ := h.ex
  obtain ⟨r', h3, h4⟩ := h'.ex
  exact r_chain h1 h2 h3 h4 ha hb hc hm
theorem q_chainT (h : CmpR X op g) (h' : CmpR X op' g') (ha : PE X a (tE X.K fa)) (hb : PE X b (tE X.K fb)) (hc : PE X c (tE X.K fc)) (hm : lastMarks [op, op'] [b, c] = false := by with_unfolding_all rfl) : PT X (.Compare a [op, op'] [b, c] pos) (tT X.K (tOf (eChain g g' fa fb fc))) := by
  obtain ⟨r, h1, h2⟩ := h.ex
  obtain ⟨r', h3, h4⟩ := h'.ex
  exact r_chainT h1 h2 h3 h4 ha hb hc hm
theorem u64 {A : Around} {k : Nat} (hr : Room k A) : A.units + 64 < cLine := hr.units
theorem u65 {A : Around} {k : Nat} (hr : Room k A) : A.units + 65 < cLine := by have := hr.un; omega
end
/-! #### the built-ins by name -/
section
variable {X : Cx} {a b : Expr} {fa fb : Ex} {p pos : Pos}
theorem q_len (hm : X.mg "len" = none) (ha : PE X a (tE X.K fa)) (hg : Gl X "len" := by rfl) (hs : starEach [a] X.env = (false, eval a X.env) :: starEach [] X.env := by rfl) (hpl : (backTo pos (starEach [] X.env)).any (·.1) = false := by rfl) : PE X (.Call (.Name "len" p) [a] [] pos) (tE X.K (eUn opLen fa)) :=
  r_b1 call_lenA d_len1 hg hm PySem.boot_len ha (by decide) (by decide) hs hpl
theorem q_max (hc : X.calm = true) (hm : X.mg "max" = none) (ha : PE X a (tE X.K fa)) (hg : Gl X "max" := by rfl) (hs : starEach [a] X.env = (false, eval a X.env) :: starEach [] X.env := by rfl) (hpl : (backTo pos (starEach [] X.env)).any (·.1) = false := by rfl) : PE X (.Call (.Name "max" p) [a] [] pos) (tE X.K (eUn opMax fa)) :=
  r_b1 (cr_max hc) d_max1 hg hm (by decide +kernel) ha (by decide) (by decide) hs hpl
theorem q_min (hc : X.calm = true) (hm : X.mg "min" = none) (ha : PE X a (tE X.K fa)) (hg : Gl X "min" := by rfl) (hs : starEach [a] X.env = (false, eval a X.env) :: starEach [] X.env := by rfl) (hpl : (backTo pos (starEach [] X.env)).any (·.1) = false := by rfl) : PE X (.Call (.Name "min" p) [a] [] pos) (tE X.K (eUn opMin fa)) :=
  r_b1 (cr_min hc) d_min1 hg hm (by decide +kernel) ha (by decide) (by decide) hs hpl
theorem q_sum (hc : X.calm = true) (hm : X.mg "sum" = none) (ha : PE X a (tE X.K fa)) (hg : Gl X "sum" := by rfl) (hs : starEach [a] X.env = (false, eval a X.env) :: starEach [] X.env := by rfl) (hpl : (backTo pos (starEach [] X.env)).any (·.1) = false := by rfl) : PE X (.Call (.Name "sum" p) [a] [] pos) (tE X.K (eUn opSum fa)) :=
  r_b1 (cr_sumB hc) d_sum1 hg hm (by decide +kernel) ha (by decide) (by decide) hs hpl
theorem q_abs (hm : X.mg "abs" = none) (ha : PE X a (tE X.K fa)) (hg : Gl X "abs" := by rfl) (hs : starEach [a] X.env = (false, eval a X.env) :: starEach [] X.env := by rfl) (hpl : (backTo pos (starEach [] X.env)).any (·.1) = false := by rfl) : PE X (.Call (.Name "abs" p) [a] [] pos) (tE X.K (eUn opAbs fa)) :=
  r_b1 call_abs d_abs1 hg hm (by decide +kernel) ha (by decide) (by decide) hs hpl
theorem q_int (hm : X.mg "int" = none) (ha : PE X a (tE X.K fa)) (hg : Gl X "int" := by rfl) (hs : starEach [a] X.env = (false, eval a X.env) :: starEach [] X.env := by rfl) (hpl : (backTo pos (starEach [] X.env)).any (·.1) = false := by rfl) : PE X (.Call (.Name "int" p) [a] [] pos) (tE X.K (eUn opInt fa)) :=
  r_t1 call_int1 d_int1 hg hm (by decide +kernel) ha (by decide) (by decide) hs hpl
theorem q_tuple (hm : X.mg "tuple" = none) (ha : PE X a (tE X.K fa)) (hg : Gl X "tuple" := by rfl) (hs : starEach [a] X.env = (false, eval a X.env) :: starEach [] X.env := by rfl) (hpl : (backTo pos (starEach [] X.env)).any (·.1) = false := by rfl) : PE X (.Call (.Name "tuple" p) [a] [] pos) (tE X.K (eUn opTuple fa)) :=
  r_t1 call_tuple_of d_tuple1 hg hm (by decide +kernel) ha (by decide) (by decide) hs hpl
theorem q_list (hm : X.mg "list" = none) (ha : PE X a (tE X.K fa)) (hg : Gl X "list" := by rfl) (hs : starEach [a] X.env = (false, eval a X.env) :: starEach [] X.env := by rfl) (hpl : (backTo pos (starEach [] X.env)).any (·.1) = false := by rfl) : PE X (.Call (.Name "list" p) [a] [] pos) (tE X.K (eUn opList fa)) :=
  r_t1 call_list_of d_list1 hg hm (by decide +kernel) ha (by decide) (by decide) hs hpl
theorem q_listO (hm : X.mg "list" = none) (ha : PE X a (tE X.K fa)) (hg : Gl X "list" := by rfl) (hs : starEach [a] X.env = (false, eval a X.env) :: starEach [] X.env := by rfl) (hpl : (backTo pos (starEach [] X.env)).any (·.1) = false := by rfl) : PE X (.Call (.Name "list" p) [a] [] pos) (tE X.K (eListO fa)) :=
  r_listO hg hm (by decide +kernel) ha (by decide) (by decide) hs hpl
theorem q_max2 (hc : X.calm = true) (hm : X.mg "max" = none) (ha : PE X a (tE X.K fa)) (hb : PE X b (tE X.K fb)) (hg : Gl X "max" := by rfl) (hs : starEach [a, b] X.env = (false, eval a X.env) :: starEach [b] X.env := by rfl) (hs2 : starEach [b] X.env = (false, eval b X.env) :: starEach [] X.env := by rfl) (hpl : (backTo pos (starEach [b] X.env)).any (·.1) = false := by rfl) :
    PE X (.Call (.Name "max" p) [a, b] [] pos) (tE X.K (eBi opMax2 fa fb)) := r_b2 (call_max2 hc) d_max2 hg hm (by decide +kernel) ha hb (by decide) (by decide) hs hs2 hpl
theorem q_min2 (hc : X.calm = true) (hm : X.mg "min" = none) (ha : PE X a (tE X.K fa)) (hb : PE X b (tE X.K fb)) (hg : Gl X "min" := by rfl) (hs : starEach [a, b] X.env = (false, eval a X.env) :: starEach [b] X.env := by rfl) (hs2 : starEach [b] X.env = (false, eval b X.env) :: starEach [] X.env := by rfl) (hpl : (backTo pos (starEach [b] X.env)).any (·.1) = false := by rfl) :
    PE X (.Call (.Name "min" p) [a, b] [] pos) (tE X.K (eBi opMin2 fa fb)) := r_b2 (call_min2 hc) d_min2 hg hm (by decide +kernel) ha hb (by decide) (by decide) hs hs2 hpl
theorem q_isi {T : String} {y : Str} {p2 : Pos} (hT : T ∈ askable) (hm : X.mg "isinstance" = none) (hmT : X.mg y = none) (hvT : bootBuiltins y = some (.type T)) (ha : PE X a (tE X.K fa)) (hg : Gl X "isinstance" := by rfl) (hgT : Gl X y := by rfl) (hnT : y ≠ "__name__" := by decide) (hdbT : (y == ("__debug__" : Str)) = false := by decide)
    (hs : starEach [a, .Name y p2] X.env = (false, eval a X.env) :: starEach [.Name y p2] X.env := by rfl) (hs2 : starEach [.Name y p2] X.env = (false, eval (.Name y p2) X.env) :: starEach [] X.env := by rfl) (hpl : (backTo pos (starEach [.Name y p2] X.env)).any (·.1) = false := by rfl) :
    PE X (.Call (.Name "isinstance" p) [a, .Name y p2] [] pos) (tE X.K (eIsi T fa)) := r_isi hT hg hm (by decide +kernel) hgT hmT hvT ha (by decide) (by decide) hnT hdbT hs hs2 hpl
end
theorem at_of {x : Str} {ps : List Str} {st : Stmt} {K : PySem.W.Frag} {h : Heap} {mg : Str → Option Value} {f : Addr} {oc : Value} {od an : Option Addr} {osl : Array (Option Value)} {kV doc pm cdv ct : Value} (X : K.In h) (G : h.Ns mainGlobals mg)
    (a : PySem.W.nsIn K mainGlobals x = some (some (.ref f))) (l : K.lookup f = some ⟨oc, od, .func (PySem.W.fnOf x x (defArgs st) (defBody st) (defScope st) .none kV doc pm an cdv ct), osl⟩) (c : PySem.W.codeIn K cdv x = true) (k : PySem.W.keepIn K (.ref f) = true)
    (hb : ∀ (kV doc pm : Value) (an : Option Addr) (cdv ct : Value) (us : List Value), us.length = ps.length → bindArgs (PySem.W.fnOf x x (defArgs st) (defBody st) (defScope st) .none kV doc pm an cdv ct) ⟨us, []⟩ = pure (ps.zip us)) :
    At K mg x ps st f (PySem.W.fnOf x x (defArgs st) (defBody st) (defScope st) .none kV doc pm an cdv ct) :=
  ⟨fun_mk l c k, PySem.W.mg_of X G a, (fun_mk (x := x) (qual := x) (st := st) l c k).binds hb⟩
end PL
/-! PL12: sorted lists of ints, ranges with a step. -/
namespace PL
open PySem PySem.Spec L2
set_option autoImplicit false
/-! ### sorted -/
def srt (ns : List Int) : List Int := ns.mergeSort fun a b => decide (a ≤ b)
theorem srt_perm (ns : List Int) : (srt ns).Perm ns := List.mergeSort_perm _ _
theorem srt_sorted (ns : List Int) : (srt ns).Pairwise (· ≤ ·) :=
  (List.pairwise_mergeSort (le := fun a b : Int => decide (a ≤ b)) (fun a b c h1 h2 => decide_eq_true (Int.le_trans (of_decide_eq_true h1) (of_decide_eq_true h2))) (fun a b => by
    rw [Bool.or_eq_true]
    rcases Int.le_total a b with h | h
    · exact .inl (decide_eq_true h)
    · exact .inr (decide_eq_true h)) ns).imp fun h => of_decide_eq_true h
theorem srt_unique {ns ns' : List Int} (h : ns'.Perm ns) (p : ns'.Pairwise (· ≤ ·)) : ns' = srt ns :=
  List.Perm.eq_of_pairwise (le := (· ≤ ·)) (fun _ _ _ _ h1 h2 => Int.le_antisymm h1 h2) p (srt_sorted ns) (h.trans (srt_perm ns).symm)
def opSorted : D → Option D
  | .lst xs => (intsOf xs).map fun ns => .lst ((srt ns).map .int)
  | _ => none
section
variable {K : PySem.W.Frag}
theorem d_sorted1 : D1Ok K (rSortedI K) opSorted := by
  intro x H F dx d Q s rx hd q
  unfold opSorted at hd
  split at hd
  · obtain ⟨ns, h1, rfl⟩ := Option.map_eq_some_iff.mp hd
    obtain ⟨_, _, rfl, hq0, z, r0⟩ := rx.list s
    rw [intsOf_eq h1] at r0
    obtain ⟨a, e, hq⟩ := list_ints s rx h1
    cases e
    refine ⟨_, ns, rfl, hq, fun ns' p hp hs hn => ?_⟩
    have e := srt_unique hp hs
    subst e
    have g := Grow.laid (o := .lst ((srt ns).map V.int)) s hn
    have hl : ((srt ns).map V.int).length ≤ sizeLine := by
      rw [List.length_map, (srt_perm ns).length_eq]
      have := r0.length
      rw [List.length_map] at this
      rw [← this]; exact z
    have rr : ∀ (F : Hp) (l : List Int), Reps K F (l.map V.int) (l.map D.int) := fun F l => by
      induction l with
      | nil => exact .nil
      | cons a l ih => exact .cons .int ih
    exact q _ _ _ g (.lst upd_same hl (rr _ _))
  · cases hd
end
section
variable {X : Cx} {a : Expr} {fa : Ex} {p pos : Pos}
theorem q_sorted (hm : X.mg "sorted" = none) (ha : PE X a (tE X.K fa)) (hg : Gl X "sorted" := by rfl) (hs : starEach [a] X.env = (false, eval a X.env) :: starEach [] X.env := by rfl) (hpl : (backTo pos (starEach [] X.env)).any (·.1) = false := by rfl) : PE X (.Call (.Name "sorted" p) [a] [] pos) (tE X.K (eUn opSorted fa)) :=
  r_b1 cr_sortedI d_sorted1 hg hm (by decide +kernel) ha (by decide) (by decide) hs hpl
end
/-! ### [x] * n, that will be written -/
noncomputable def gRepO : G2 := fun x y m => (look m x).bind fun dx => (look m y).bind fun dy => match dx, dy with
  | .lst xs, .int k => if okP (-(2 ^ 63) ≤ k ∧ k < 2 ^ 63 ∧ xs.length * k.toNat ≤ big) = true then some (.own m.length, m ++ [.lst (List.replicate k.toNat xs).flatten]) else none
  | _, _ => none
theorem d_repO {K : PySem.W.Frag} : R2Ok K rRep gRepO := by
  intro x y H F as m ex ey e m' Q hp rx ry hf q
  obtain ⟨dx, h1, hf⟩ := bind2 hf
  obtain ⟨dy, h2, hf⟩ := bind2 hf
  have r1 := look_rep hp rx h1
  have r2 := look_rep hp ry h2
  cases dx with
  | lst xs =>
    cases dy with
    | int k =>
      have hf : (if okP (-(2 ^ 63) ≤ k ∧ k < 2 ^ 63 ∧ xs.length * k.toNat ≤ big) = true then some (E.own m.length, m ++ [O.lst (List.replicate k.toNat xs).flatten]) else none) = some (e, m') := hf
      by_cases z : okP (-(2 ^ 63) ≤ k ∧ k < 2 ^ 63 ∧ xs.length * k.toNat ≤ big) = true
      · rw [if_pos z] at hf
        have z := of_okP z
        cases hf
        obtain ⟨a, vs, rfl, g1, z1, r⟩ := r1.list hp.sub
        refine ⟨a, k, vs, rfl, r2.int, g1, z.1, z.2.1, by rw [r.length]; exact big_le z.2.2, fun p hn => ?_⟩
        refine q _ _ F ⟨as.c ++ [p], as.g⟩ ⟨Sm.refl _, pre_snoc _ _, rfl⟩ (hp.cellNew hn ⟨hp.sub.free hn, by rw [rep_len]; exact big_le z.2.2, _, upd_same, r.rep _⟩) (.own ?_)
        rw [← hp.len]
        simp
      · rw [if_neg z] at hf
        cases hf
    | _ => cases hf
  | _ => cases hf
section
variable {X : Cx} {a b : Expr} {fa fb : Ex} {pos : Pos}
theorem q_repO (ha : PE X a (tE X.K fa)) (hb : PE X b (tE X.K fb)) : PE X (.BinOp a .Mult b pos) (tE X.K (eBin gRepO fa fb)) := r_op op_rep d_repO ha hb
end
/-! ### x = {..: .. for ..}, a plain local -/
section
open PyProof.Rows
variable {X : Cx} {y : Str} {py pos spos : Pos} {kx vx tg iter : Expr} {ifs : List Expr} {scope : Scope} {own : List (Str × Nat)} {gt : TG} {tgm : Tg} {it : Ix} {tt : Tx} {tk tv : Ex} {i : Nat}
/-- of the places in a block of its own -/
abbrev InBlk (X : Cx) (scope : Scope) (p : Cx → Prop) : Prop := ∀ (s : Shared) (H : Hp) (C : Addr) (cl : List (Str × Addr)) (fp : List Addr), p (X.blk s H scope (PySem.compEnvC scope cl C X.env) fp)
theorem ps_setDc {wi : TI} {ttl : TT} {tkl tvl : TE} (hc : X.calm = true) (hN : X.N.Nodup) (hy : X.N[i]? = some y) (hyl : X.env.scope.names.lookup y = some .local)
    (hsw : swapsWith (.DictComp kx vx [⟨tg, iter, ifs, 0⟩] scope pos) (some (.Name y py)) spos.line X.env = pure true) (hi : PI X tg iter wi) (ok : BlkOk X.N X.env.scope scope own)
    (hg : InBlk X scope fun Y => PG Y tg gt) (ht : InBlk X scope fun Y => PTs Y ifs ttl) (hk : InBlk X scope fun Y => PE Y kx tkl) (he : InBlk X scope fun Y => PE Y vx tvl) (hs : ∀ x, foldedSetIterable iter X.env x = pure x) :
    PS X (.Assign [.Name y py] (.DictComp kx vx [⟨tg, iter, ifs, 0⟩] scope pos) spos) (tAsg (tDc wi gt ttl tkl tvl (own.map (·.2))) (gName i)) := by
  refine ⟨fun pins s σ H E I h => ?_⟩
  rw [exec_Assign_Name_used _ _ _ _ hsw]
  refine wpAny_bind (wpAny_standAt (wpAny_bind ?_))
  show wpAny _ X.A (do let _ ← comprehension (.DictComp kx vx [⟨tg, iter, ifs, 0⟩] scope pos) scope X.env (firstIterPos [⟨tg, iter, ifs, 0⟩] pos) newDict false (eval iter X.env) (some (assign (.Name y py) X.env))) _ _ s
  have h : tDc wi gt ttl tkl tvl (own.map (·.2)) σ H (fun x H1 => gName i x σ H1 E.nx) := h
  refine wpAny_bind (thn (dc_core (Qf := fun _ s2 => SP X pins E .next s2) hc hN I hi ok hg ht hk he hs h fun B C s2 m G I2 q nsC f => ?_) fun _ s2 hq => wpAny_pure (wpAny_pure hq))
  show wpAny _ _ (assign (.Name y py) X.env (.ref B)) _ _ _
  refine wpAny_assign_Name (store_ok2 (v := V.ref B) I2 hN hy (.inl hyl) rfl (fun s3 I3 ⟨a, sb, ha⟩ => ?_) (.inr hyl))
  obtain ⟨u0, u1, u2, u3, u4, u5⟩ := f
  have ne : C ≠ a := by
    rcases ha with z | z
    · rw [z]; exact u1
    · exact fun e => u4 y a z e.symm
  exact ⟨m, nsC.sameBut sb ne, fun _ sb3 => ⟨_, G, I3.turned (t' := s3.toks) (fun b o hb e => (sb3.2 b hb).trans e) u0 u1 u3 u4 u5, q⟩⟩
theorem sw_trueD {gs : List Comprehension} {l : Nat} {env : Env} (hk : env.scope.kind = .function) (hy : env.scope.names.lookup y = some .local) (hl : (py.line == pos.line) = true)
    (ha : (scope.names.any fun (n, k) => n == y && (k == .local || k == .cell)) = false) : swapsWith (.DictComp kx vx gs scope pos) (some (.Name y py)) l env = pure true := by
  have e1 : env.kindOf y = some .local := hy
  have e2 : env.blockKind = .function := by
    unfold Env.blockKind
    rw [hk]
    rfl
  unfold swapsWith
  simp only [e2, e1, ha, Expr.pos, hl]
  rfl
theorem r_setDc (hc : X.calm = true) (hN : X.N.Nodup) (hy : X.N[i]? = some y) (hyl : X.env.scope.names.lookup y = some .local)
    (hsw : swapsWith (.DictComp kx vx [⟨tg, iter, ifs, 0⟩] scope pos) (some (.Name y py)) spos.line X.env = pure true) (hi : PI X tg iter (tI X.K it)) (ok : BlkOk X.N X.env.scope scope own) (hgt : TgOk X.K gt tgm (own.map (·.2)))
    (hg : InBlk X scope fun Y => PG Y tg gt) (ht : InBlk X scope fun Y => PTs Y ifs (tT X.K tt)) (hk : InBlk X scope fun Y => PE Y kx (tE X.K tk)) (he : InBlk X scope fun Y => PE Y vx (tE X.K tv)) (hs : ∀ x, foldedSetIterable iter X.env x = pure x := by intro _; rfl) :
    PS X (.Assign [.Name y py] (.DictComp kx vx [⟨tg, iter, ifs, 0⟩] scope pos) spos) (tS X.K (sSet i (eDc it (own.map (·.2)) tgm tt tk tv))) :=
  PS_imp (PS_imp (ps_setDc hc hN hy hyl hsw hi ok hg ht hk he hs) fun D σ H h => dc_read hgt σ H _ h) (asg_read (tgOk_name (vs := [i]) (List.mem_singleton.mpr rfl)))
theorem r_setDcO (hc : X.calm = true) (hN : X.N.Nodup) (hy : X.N[i]? = some y) (hyl : X.env.scope.names.lookup y = some .local)
    (hsw : swapsWith (.DictComp kx vx [⟨tg, iter, ifs, 0⟩] scope pos) (some (.Name y py)) spos.line X.env = pure true) (hi : PI X tg iter (tI X.K it)) (ok : BlkOk X.N X.env.scope scope own) (hgt : TgOk X.K gt tgm (own.map (·.2)))
    (hg : InBlk X scope fun Y => PG Y tg gt) (ht : InBlk X scope fun Y => PTs Y ifs (tT X.K tt)) (hk : InBlk X scope fun Y => PE Y kx (tE X.K tk)) (he : InBlk X scope fun Y => PE Y vx (tE X.K tv)) (hs : ∀ x, foldedSetIterable iter X.env x = pure x := by intro _; rfl) :
    PS X (.Assign [.Name y py] (.DictComp kx vx [⟨tg, iter, ifs, 0⟩] scope pos) spos) (tS X.K (sSet i (eDcO it (own.map (·.2)) tgm tt tk tv))) :=
  PS_imp (PS_imp (ps_setDc hc hN hy hyl hsw hi ok hg ht hk he hs) fun D σ H h => dcO_read hgt σ H _ h) (asg_read (tgOk_name (vs := [i]) (List.mem_singleton.mpr rfl)))
end
end PL
/-! PL13: walks over dicts, ranges with a step, all, copies of dicts. -/
namespace PL
open PySem PySem.Spec L2
set_option autoImplicit false
section
variable {K : PySem.W.Frag} {H F H' F' : Hp} {as : Cs} {m : Store}
/-- a dict of the frozen part is locked for good -/
theorem HeapOk.lockK (hp : HeapOk K H F as m) {d : Addr} {kvs : List (Key × V)} {od : Obj} (hF : F d = some (.dK kvs) ∨ ∃ od', F d = some (.frz od' (.dK kvs))) (h1 : H' d = some (.frz od (.dK kvs))) (h2 : H' = H ∨ (H d = some (.dK kvs) ∧ H' = upd H d (.frz od (.dK kvs)))) :
    HeapOk K H' (upd F d (.frz od (.dK kvs))) as m ∧ Sm F (upd F d (.frz od (.dK kvs))) := by
  have some' : F d ≠ none := by rcases hF with h | ⟨_, h⟩ <;> rw [h] <;> simp
  have ot : ∀ b, b ≠ d → H' b = H b := fun b e => by
    rcases h2 with h2 | ⟨_, h2⟩
    · rw [h2]
    · rw [h2, upd_ne e]
  have sub : FSub (upd F d (.frz od (.dK kvs))) H' := fun b o q => by
    by_cases e : b = d
    · subst e
      rw [upd_same] at q
      cases q
      exact .inl h1
    · rw [upd_ne e] at q
      rw [ot b e]
      exact hp.sub b o q
  have sm : Sm F (upd F d (.frz od (.dK kvs))) := fun b o q => by
    by_cases e : b = d
    · subst e
      rcases hF with h | ⟨od', h⟩
      · rw [h] at q
        cases q
        exact .inr ⟨rfl, od, upd_same⟩
      · have q' := q
        rw [h] at q
        cases q
        rcases hp.sub b _ h with w | ⟨w, _⟩
        · rcases h2 with h2 | ⟨h3, h2⟩
          · rw [h2, w] at h1
            cases h1
            exact .inl upd_same
          · rw [w] at h3
            cases h3
        · cases w
    · exact .inl (by rw [upd_ne e]; exact q)
  have ne : ∀ b, F b = none → b ≠ d := fun b z e => some' (by rw [← e]; exact z)
  refine ⟨⟨sub, hp.len, hp.nd, fun b q => ?_, fun c b o q1 q2 => ?_, fun p hq => ?_, hp.pnd⟩, sm⟩
  · by_cases e : b = d
    · rw [e, h1]; simp
    · rw [ot b e]; exact hp.there b q
  · have y := hp.cell c b o q1 q2
    cases o with
    | lst ds => obtain ⟨y1, z, vs, y2, y3⟩ := y; exact ⟨by rw [upd_ne (ne _ y1)]; exact y1, z, vs, by rw [ot _ (ne _ y1)]; exact y2, y3.mono sm⟩
    | dic ds => obtain ⟨y1, vs, y2, y3⟩ := y; exact ⟨by rw [upd_ne (ne _ y1)]; exact y1, vs, by rw [ot _ (ne _ y1)]; exact y2, y3.mono sm⟩
    | dicT ds => obtain ⟨y1, vs, y2, y3⟩ := y; exact ⟨by rw [upd_ne (ne _ y1)]; exact y1, vs, by rw [ot _ (ne _ y1)]; exact y2, y3.mono sm⟩
    | frz x => exact Rep.mono sm y
  · obtain ⟨p1, p2, p3⟩ := hp.prot p hq
    exact ⟨by rw [ot _ (ne _ p2)]; exact p1, by rw [upd_ne (ne _ p2)]; exact p2, p3⟩
end
/-- a dict at hand, locked if it was not -/
def LockT (d : Addr) (kvs : List (Key × V)) (H : Hp) (R : Obj → Hp → Prop) : Prop := ∀ od H', H' d = some (.frz od (.dK kvs)) → (H' = H ∨ (H d = some (.dK kvs) ∧ H' = upd H d (.frz od (.dK kvs)))) → R od H'
section
variable {X : Cx} {pins : List (Addr × Obj)} {σ : L2.St} {H : Hp} {s : Shared} {d : Addr} {kvs : List (Key × V)}
theorem Inv_lockAny (I : Inv X pins σ H s) (h : Rd H d (.dK kvs)) {R : Obj → Hp → Prop} (q : LockT d kvs H R) : ∃ od H', Inv X pins σ H' s ∧ H' d = some (.frz od (.dK kvs)) ∧ R od H' := by
  rcases h with h | ⟨od, h⟩
  · obtain ⟨od, I2⟩ := I.lock h trivial
    exact ⟨od, _, I2, upd_same, q od _ upd_same (.inr ⟨h, rfl⟩)⟩
  · exact ⟨od, H, I, h, q od H h (.inl rfl)⟩
end
/-- an expression whose dict gets locked -/
def tLocked (td : TE) : TE := fun σ H Q => td σ H fun x H1 => ∃ d kvs, x = .ref d ∧ Rd H1 d (.dK kvs) ∧ (kvs.length ≤ sizeLine → LockT d kvs H1 fun _ H2 => Q x H2)
theorem pe_locked {X : Cx} {e : Expr} {td : TE} (he : PE X e td) : PE X e (tLocked td) := ⟨fun pins s σ H Q I h =>
  thn (he.run pins s σ H _ I h) fun u s1 ⟨x, H1, I1, rx, d, kvs, ex, hd, q⟩ => by
    obtain ⟨z, _⟩ := dk_rd I1.hok hd
    obtain ⟨od, H2, I2, e2, q2⟩ := Inv_lockAny I1 hd (q z)
    exact ⟨x, H2, I2, rx, q2⟩⟩
def keyD : Key → D
  | .inl i => .int i
  | .inr x => .str x
/-- the pairs of a dict, frozen -/
def kvsE (f : Ex) : Rho → Store → Option (List (Key × D) × Store) := fun ρ m => (f ρ m).bind fun p => (frzE p.2 p.1).bind fun q => match q.1 with
  | .dic kvs => some (kvs, q.2)
  | _ => none
def iKeysD (f : Ex) : Ix := fun ρ m => (kvsE f ρ m).bind fun p => some (p.1.map fun kv => keyD kv.1, p.2)
def iItemsD (f : Ex) : Ix := fun ρ m => (kvsE f ρ m).bind fun p => some (p.1.map fun kv => D.tup [keyD kv.1, kv.2], p.2)
def iValsD (f : Ex) : Ix := fun ρ m => (kvsE f ρ m).bind fun p => some (p.1.map fun kv => kv.2, p.2)
section
variable {K : PySem.W.Frag} {F H : Hp} {as : Cs} {m : Store} {a : Addr} {vs : List (Key × V)} {ds : List (Key × D)}
theorem KReps.len : ∀ {vs : List (Key × V)} {ds : List (Key × D)}, KReps K F vs ds → vs.length = ds.length
  | _, _, .nil => rfl
  | _, _, .cons _ b => congrArg (· + 1) b.len
theorem KReps.get : ∀ {vs : List (Key × V)} {ds : List (Key × D)} (i : Nat) {k : Key} {v : V}, KReps K F vs ds → vs[i]? = some (k, v) → ∃ d, ds[i]? = some (k, d) ∧ Rep K F v d
  | _, _, 0, _, _, .cons r _, h => by simp at h; obtain ⟨rfl, rfl⟩ := h; exact ⟨_, rfl, r⟩
  | _, _, i + 1, _, _, .cons _ b, h => by
    obtain ⟨d, h1, h2⟩ := b.get i (by simpa using h)
    exact ⟨d, by simpa using h1, h2⟩
  | _, _, _, _, _, .nil, h => by simp at h
theorem rep_key (k : Key) : Rep K F (kV k) (keyD k) := by
  cases k with
  | inl i => exact .int
  | inr x => exact .str
end
theorem Rep.dicAt {K : PySem.W.Frag} {F : Hp} {v : V} {kds : List (Key × D)} (r : Rep K F v (.dic kds)) : ∃ d kvs, v = .ref d ∧ (F d = some (.dK kvs) ∨ ∃ od', F d = some (.frz od' (.dK kvs))) ∧ KReps K F kvs kds := by
  cases r with
  | dic h1 h2 => exact ⟨_, _, rfl, .inl h1, h2⟩
  | dicF h1 h2 => exact ⟨_, _, rfl, .inr ⟨_, h1⟩, h2⟩
section
variable {X : Cx} {f : Ex}
/-- what a walk over a dict's places needs: the dict locked, the turns -/
theorem dwalk {J : Addr → Obj → List (Key × V) → It} {g : List (Key × D) → List D} {σ : L2.St} {H : Hp} {R : It → Hp → Prop}
    (hJ : ∀ (F : Hp) (d : Addr) (od : Obj) (kvs : List (Key × V)) (ds : List (Key × D)), F d = some (.frz od (.dK kvs)) → KReps X.K F kvs ds → kvs.length ≤ sizeLine → Walks X.K (J d od kvs) F (g ds))
    (h : tI X.K (fun ρ m => (kvsE f ρ m).bind fun p => some (g p.1, p.2)) σ H R) : tLocked (tE X.K f) σ H fun x H1 => ∃ d o kvs, x = .ref d ∧ H1 d = some (.frz o (.dK kvs)) ∧ R (J d o kvs) H1 := by
  obtain ⟨ρ, m, F, as, xs, m', env, hp, hf, q⟩ := h
  obtain ⟨⟨kds, m1⟩, h1, hf⟩ := bind2 hf
  obtain ⟨⟨e, m2⟩, h2, h1⟩ := bind2 h1
  obtain ⟨⟨dd, m3⟩, h3, h1⟩ := bind2 h1
  cases hf
  refine ⟨ρ, m, F, as, e, m2, env, hp, h2, fun v H1 F1 as1 x1 hp1 r1 => ?_⟩
  obtain ⟨F2, x2, hp2, r2⟩ := frzE_ok hp1 r1 h3
  cases dd with
  | dic kds' =>
    cases h1
    obtain ⟨d, kvs, rfl, hF, kr⟩ := r2.dicAt
    refine ⟨d, kvs, rfl, ?_, fun z od H' w1 w2 => ?_⟩
    · rcases hF with hF | ⟨od', hF⟩
      · rcases hp2.sub _ _ hF with z | ⟨_, od, z⟩
        · exact .inl z
        · exact .inr ⟨od, z⟩
      · rcases hp2.sub _ _ hF with z | ⟨z, _⟩
        · exact .inr ⟨od', z⟩
        · cases z
    · obtain ⟨hp3, s3⟩ := hp2.lockK hF w1 w2
      exact ⟨d, od, kvs, rfl, w1, q _ H' _ as1 (x1.trans (x2.trans ⟨s3, List.prefix_refl _, rfl⟩)) hp3 (hJ _ d od kvs _ upd_same (kr.mono s3) z)⟩
  | _ => cases h1

theorem keys_walks {K : PySem.W.Frag} {F : Hp} {d : Addr} {od : Obj} {kvs : List (Key × V)} {ds : List (Key × D)} (h : F d = some (.frz od (.dK kvs))) (r : KReps K F kvs ds) (z : kvs.length ≤ sizeLine) : Walks K (Itk d od kvs) F (ds.map fun kv => keyD kv.1) := by
  have hl := r.len
  refine ⟨by rw [List.length_map, ← hl]; exact z, fun F2 as2 m2 H2 x hp i => ?_⟩
  have hH : H2 d = some (.frz od (.dK kvs)) := by
    rcases hp.sub _ _ (x.ex rfl h) with q | ⟨q, _⟩
    · exact q
    · cases q
  refine ⟨fun hi => ⟨hH, by rw [List.length_map] at hi; omega⟩, fun e he => ?_⟩
  have hi : i < kvs.length := by have := (List.getElem?_eq_some_iff.mp he).1; rw [List.length_map] at this; omega
  refine ⟨⟨hH, hi⟩, fun v H' ⟨e1, k, w, e2, e3⟩ => ?_⟩
  subst e1 e3
  obtain ⟨dd, e4, _⟩ := r.get i e2
  rw [List.getElem?_map, e4] at he
  cases he
  exact ⟨F2, .refl hp.sub, rep_key k⟩
theorem vals_walks {K : PySem.W.Frag} {F : Hp} {d : Addr} {od : Obj} {kvs : List (Key × V)} {ds : List (Key × D)} (h : F d = some (.frz od (.dK kvs))) (r : KReps K F kvs ds) (z : kvs.length ≤ sizeLine) : Walks K (Itd d od kvs) F (ds.map fun kv => kv.2) := by
  have hl := r.len
  refine ⟨by rw [List.length_map, ← hl]; exact z, fun F2 as2 m2 H2 x hp i => ?_⟩
  have hH : H2 d = some (.frz od (.dK kvs)) := by
    rcases hp.sub _ _ (x.ex rfl h) with q | ⟨q, _⟩
    · exact q
    · cases q
  refine ⟨fun hi => ⟨hH, by rw [List.length_map] at hi; omega⟩, fun e he => ?_⟩
  have hi : i < kvs.length := by have := (List.getElem?_eq_some_iff.mp he).1; rw [List.length_map] at this; omega
  refine ⟨⟨hH, hi⟩, fun v H' ⟨e1, k, e2⟩ => ?_⟩
  subst e1
  obtain ⟨dd, e4, r4⟩ := r.get i e2
  rw [List.getElem?_map, e4] at he
  cases he
  exact ⟨F2, .refl hp.sub, r4.mono x⟩
theorem items_walks {K : PySem.W.Frag} {F : Hp} {d : Addr} {od : Obj} {kvs : List (Key × V)} {ds : List (Key × D)} (h : F d = some (.frz od (.dK kvs))) (r : KReps K F kvs ds) (z : kvs.length ≤ sizeLine) : Walks K (Iti d od kvs) F (ds.map fun kv => D.tup [keyD kv.1, kv.2]) := by
  have hl := r.len
  refine ⟨by rw [List.length_map, ← hl]; exact z, fun F2 as2 m2 H2 x hp i => ?_⟩
  have hH : H2 d = some (.frz od (.dK kvs)) := by
    rcases hp.sub _ _ (x.ex rfl h) with q | ⟨q, _⟩
    · exact q
    · cases q
  refine ⟨fun hi => ⟨hH, by rw [List.length_map] at hi; omega⟩, fun e he => ?_⟩
  have hi : i < kvs.length := by have := (List.getElem?_eq_some_iff.mp he).1; rw [List.length_map] at this; omega
  refine ⟨⟨hH, hi⟩, fun v H' ⟨T, k, w, e2, e3, e5, e6⟩ => ?_⟩
  subst e3 e6
  obtain ⟨dd, e4, r4⟩ := r.get i e2
  rw [List.getElem?_map, e4] at he
  cases he
  have g := Grow.laid (o := .tup [kV k, w]) hp.sub e5
  exact ⟨_, g, .tup upd_same (by show 2 ≤ sizeLine; rw [sizeLine_eq]; decide) (.cons (rep_key k) (.cons ((r4.mono x).mono (g.same hp.sub)) .nil))⟩
variable {tg l : Expr} {apos cpos : Pos} {elts : List Expr} {kk : Nat} {tpos : Pos}
theorem r_keys (h : PE X l (tE X.K f)) : PI X tg l (tI X.K (iKeysD f)) := by
  refine PI_imp (pi_keys (pe_locked h)) fun σ H R w => ?_
  have := dwalk (J := Itk) (R := R) (fun F d od kvs ds a b c => keys_walks a b c) w
  obtain ⟨ρ, m, F, as, e, m', env, hp, hf, q⟩ := this
  refine ⟨ρ, m, F, as, e, m', env, hp, hf, fun v H1 F1 as1 x1 hp1 r1 => ?_⟩
  obtain ⟨d, kvs, e1, e2, q⟩ := q v H1 F1 as1 x1 hp1 r1
  refine ⟨d, kvs, e1, e2, fun z od H2 w1 w2 => ?_⟩
  obtain ⟨d', o, kvs', e3, e4, q⟩ := q z od H2 w1 w2
  exact ⟨d', o, e3, .inl ⟨kvs', e4, q⟩⟩
theorem r_values (h : PE X l (tE X.K f)) (hbase : attributeBase l "values" X.env (eval l X.env) = eval l X.env := by rfl) (hline : (apos.endLine == cpos.line) = true := by rfl) : PI X tg (.Call (.Attribute l "values" apos) [] [] cpos) (tI X.K (iValsD f)) := by
  refine PI_imp (pi_values (pe_locked h) hbase hline) fun σ H R w => ?_
  exact dwalk (J := Itd) (R := R) (fun F d od kvs ds a b c => vals_walks a b c) w
theorem r_items (h : PE X l (tE X.K f)) (hbase : attributeBase l "items" X.env (eval l X.env) = eval l X.env := by rfl) (hline : (apos.endLine == cpos.line) = true := by rfl) : PI X (.Tuple elts kk tpos) (.Call (.Attribute l "items" apos) [] [] cpos) (tI X.K (iItemsD f)) := by
  refine PI_imp (pi_items (pe_locked h) hbase hline) fun σ H R w => ?_
  exact dwalk (J := Iti) (R := R) (fun F d od kvs ds a b c => items_walks a b c) w
end
/-! ### range(a, b, c), c a written number -/
section
variable {X : Cx} {tg a b c : Expr} {fa fb fc : Ex} {p pos : Pos}
/-- a, a + k, .. below b, k above 0 -/
def rgUp (a b k : Int) : List Int := (List.range ((b - a + k - 1) / k).toNat).map fun (i : Nat) => a + (i : Int) * k
noncomputable def iRange3 (fa fb fc : Ex) : Ix := fun ρ m => (fa ρ m).bind fun p => (fb ρ p.2).bind fun q => (fc ρ q.2).bind fun r => (intOf r.2 p.1).bind fun a => (intOf r.2 q.1).bind fun b => (intOf r.2 r.1).bind fun k =>
  if okP (-(big : Int) ≤ a ∧ a ≤ big ∧ -(big : Int) ≤ b ∧ b ≤ big ∧ 0 < k ∧ k ≤ big) = true then some ((rgUp a b k).map D.int, r.2) else none
theorem up_places {a b k : Int} (hk : 0 < k) : Builtin.Range.rangeSize a b k = (((b - a + k - 1) / k).toNat : Nat) := by
  unfold Builtin.Range.rangeSize
  rw [if_pos hk]
  by_cases h : a < b
  · rw [if_pos h]
    have e : b - a + k - 1 = (b - a - 1) + k := by omega
    rw [e, Int.add_ediv_of_dvd_right (Int.dvd_refl k), Int.ediv_self (by omega)]
    have : 0 ≤ (b - a - 1) / k := Int.ediv_nonneg (by omega) (by omega)
    omega
  · rw [if_neg h]
    have : (b - a + k - 1) / k ≤ 0 := by
      rw [← Int.lt_add_one_iff]
      exact Int.ediv_lt_of_lt_mul hk (by omega)
    omega
theorem up_small {a b k : Int} (h : -1000000 ≤ a ∧ a ≤ 1000000 ∧ -1000000 ≤ b ∧ b ≤ 1000000 ∧ 0 < k ∧ k ≤ 1000000) : Builtin.Range.small a b k = true := by
  obtain ⟨h1, h2, h3, h4, h5, h6⟩ := h
  have e := up_places (a := a) (b := b) h5
  have u : (b - a + k - 1) / k ≤ 3000000 := by
    rw [← Int.lt_add_one_iff]
    refine Int.ediv_lt_of_lt_mul h5 ?_
    have : (3000000 + 1) * 1 ≤ (3000000 + 1) * k := Int.mul_le_mul_of_nonneg_left (by omega) (by omega)
    omega
  have p : k * Builtin.Range.rangeSize a b k ≤ 6000000 ∧ 0 ≤ k * Builtin.Range.rangeSize a b k := by
    rw [e]
    refine ⟨?_, Int.mul_nonneg (by omega) (by omega)⟩
    by_cases z : 0 ≤ (b - a + k - 1) / k
    · rw [Int.toNat_of_nonneg z]
      have := Int.mul_ediv_self_le (x := b - a + k - 1) (k := k) (by omega)
      omega
    · rw [show ((b - a + k - 1) / k).toNat = 0 by omega]
      simp
  unfold Builtin.Range.small
  rw [e] at p ⊢
  simp only [Builtin.Range.rangeFitsLong, Bool.and_eq_true, Bool.or_eq_true, decide_eq_true_eq, beq_iff_eq]
  refine ⟨⟨⟨⟨by omega, by omega⟩, by omega, by omega⟩, by omega, by omega⟩, .inr ?_⟩
  rw [if_pos h5]
  simp only [Bool.and_eq_true, decide_eq_true_eq]
  omega
theorem walks_up {K : PySem.W.Frag} {F : Hp} (a b k : Int) (z : ((b - a + k - 1) / k).toNat ≤ sizeLine) : Walks K (Itc a k ((b - a + k - 1) / k).toNat) F ((rgUp a b k).map D.int) := by
  refine ⟨by rw [List.length_map]; unfold rgUp; rw [List.length_map, List.length_range]; exact z, fun F2 as2 m2 H2 x hp i => ?_⟩
  have hl : ((rgUp a b k).map D.int).length = ((b - a + k - 1) / k).toNat := by rw [List.length_map]; unfold rgUp; rw [List.length_map, List.length_range]
  refine ⟨fun hi => by rw [hl] at hi; exact hi, fun e he => ?_⟩
  have hi : i < ((b - a + k - 1) / k).toNat := by rw [← hl]; exact (List.getElem?_eq_some_iff.mp he).1
  refine ⟨hi, fun v H' ⟨e1, e2⟩ => ?_⟩
  subst e1 e2
  unfold rgUp at he
  rw [List.getElem?_map, List.getElem?_map, List.getElem?_range hi] at he
  cases he
  exact ⟨F2, .refl hp.sub, .int⟩
theorem r_range3 (hg : Gl X "range") (hm : X.mg "range" = none) (ha : PE X a (tE X.K fa)) (hb : PE X b (tE X.K fb)) (hc : PE X c (tE X.K fc)) (hs : starEach [a, b, c] X.env = (false, eval a X.env) :: starEach [b, c] X.env := by rfl) (hs1 : starEach [b, c] X.env = (false, eval b X.env) :: starEach [c] X.env := by rfl) (hs2 : starEach [c] X.env = (false, eval c X.env) :: starEach [] X.env := by rfl) (hpl : (backTo pos (starEach [b, c] X.env)).any (·.1) = false := by rfl) :
    PI X tg (.Call (.Name "range" p) [a, b, c] [] pos) (tI X.K (iRange3 fa fb fc)) := by
  refine PI_imp (pi_range3 hg hm (pa_cons ha (pa_cons hb (pa_cons hc pa_nil hs2) hs1) hs) hs hpl) fun σ H R h => ?_
  obtain ⟨ρ, m, F, as, xs, m', env, hp, hf, q⟩ := h
  obtain ⟨⟨e1, m1⟩, h1, hf⟩ := bind2 hf
  obtain ⟨⟨e2, m2⟩, h2, hf⟩ := bind2 hf
  obtain ⟨⟨e3, m3⟩, h3, hf⟩ := bind2 hf
  obtain ⟨i, h4, hf⟩ := bind2 hf
  obtain ⟨j, h5, hf⟩ := bind2 hf
  obtain ⟨k, h6, hf⟩ := bind2 hf
  split at hf
  · rename_i z
    have z := of_okP z
    cases hf
    refine estep env hp h1 fun v1 H1 F1 as1 x1 hp1 env1 r1 => estep env1 hp1 h2 fun v2 H2 F2 as2 x2 hp2 env2 r2 => estep env2 hp2 h3 fun v3 H3 F3 as3 x3 hp3 env3 r3 => ?_
    have ev1 := intOf_rep hp3 (r1.ext (x2.trans x3)) h4
    have ev2 := intOf_rep hp3 (r2.ext x3) h5
    have ev3 := intOf_rep hp3 r3 h6
    subst ev1 ev2 ev3
    have hb : (big : Int) = 1000000 := rfl
    have zz : -1000000 ≤ i ∧ i ≤ 1000000 ∧ -1000000 ≤ j ∧ j ≤ 1000000 ∧ 0 < k ∧ k ≤ 1000000 := by omega
    have u : (j - i + k - 1) / k ≤ 3000000 := by
      rw [← Int.lt_add_one_iff]
      refine Int.ediv_lt_of_lt_mul zz.2.2.2.2.1 ?_
      have : (3000000 + 1) * 1 ≤ (3000000 + 1) * k := Int.mul_le_mul_of_nonneg_left (by omega) (by omega)
      omega
    exact ⟨i, j, k, _, rfl, ⟨by omega, by omega, up_small zz, up_places (by omega)⟩, q _ H3 F3 as3 (x1.trans (x2.trans x3)) hp3 (walks_up i j k (by rw [sizeLine_eq]; omega))⟩
  · cases hf
end
/-! ### all(list of bools), dict(d) -/
def blsOf : List D → Option (List Bool)
  | [] => some []
  | .bl i :: r => (blsOf r).map (i :: ·)
  | _ => none
theorem blsOf_eq : ∀ {ds : List D} {ns : List Bool}, blsOf ds = some ns → ds = ns.map .bl
  | [], _, h => by cases h; rfl
  | d :: r, ns, h => by
    cases d with
    | bl i =>
      obtain ⟨ms, h1, rfl⟩ := Option.map_eq_some_iff.mp h
      rw [blsOf_eq h1]
      rfl
    | _ => cases h
theorem blsOf_map : ∀ ns : List Bool, blsOf (ns.map .bl) = some ns
  | [] => rfl
  | n :: ns => by
    show (blsOf (ns.map .bl)).map (n :: ·) = _
    rw [blsOf_map ns]; rfl
def opAll : D → Option D
  | .lst xs => (blsOf xs).map fun bs => .bl (bs.all id)
  | _ => none
theorem d_all1 {K : PySem.W.Frag} : D1Ok K (rAll K) opAll := by
  intro x H F dx d Q s rx hd q
  cases dx with
  | lst xs =>
    obtain ⟨bs, h1, rfl⟩ := Option.map_eq_some_iff.mp hd
    have e := blsOf_eq h1
    subst e
    obtain ⟨a, vs, rfl, g1, z1, r1⟩ := rx.list s
    have e2 := r1.bls
    subst e2
    exact ⟨a, bs, rfl, .of g1, q _ H F (.refl s) .bl⟩
  | _ => cases hd
/-- dict(d), a copy that will be written -/
def eDictO (f : Ex) : Ex := fun ρ m => (f ρ m).bind fun p => (look p.2 p.1).bind fun d => match d with
  | .dic kvs => some (.own p.2.length, p.2 ++ [.dic kvs])
  | _ => none
section
variable {X : Cx} {a : Expr} {fa : Ex} {p pos : Pos}
theorem q_all (hc : X.calm = true) (hm : X.mg "all" = none) (ha : PE X a (tE X.K fa)) (hg : Gl X "all" := by rfl) (hs : starEach [a] X.env = (false, eval a X.env) :: starEach [] X.env := by rfl) (hpl : (backTo pos (starEach [] X.env)).any (·.1) = false := by rfl) : PE X (.Call (.Name "all" p) [a] [] pos) (tE X.K (eUn opAll fa)) :=
  r_b1 (cr_all hc) d_all1 hg hm (by decide +kernel) ha (by decide) (by decide) hs hpl
theorem q_dictO (hm : X.mg "dict" = none) (ha : PE X a (tE X.K fa)) (hg : Gl X "dict" := by rfl) (hs : starEach [a] X.env = (false, eval a X.env) :: starEach [] X.env := by rfl) (hpl : (backTo pos (starEach [] X.env)).any (·.1) = false := by rfl) : PE X (.Call (.Name "dict" p) [a] [] pos) (tE X.K (eDictO fa)) :=
  PE_imp (pe_callTy call_dictD hg hm (by decide +kernel) (pa_cons ha pa_nil hs) (by decide) (by decide) hs hpl) fun σ H Q h => by
    obtain ⟨ρ, m, F, as, e, m', env, hp, hf, q⟩ := h
    obtain ⟨⟨e1, m1⟩, h1, hf⟩ := bind2 hf
    obtain ⟨d, h2, hf⟩ := bind2 hf
    cases d with
    | dic kvs =>
      cases hf
      refine estep env hp h1 fun v H1 F1 as1 x1 hp1 env1 r1 => ?_
      obtain ⟨a, vs, rfl, hR, kr⟩ := (look_rep hp1 r1 h2).dict hp1.sub
      refine ⟨a, vs, rfl, hR, fun l hl => q _ _ F1 ⟨as1.c ++ [l], as1.g⟩ (x1.trans ⟨Sm.refl _, pre_snoc _ _, rfl⟩) (hp1.cellNew hl ⟨hp1.sub.free hl, vs, upd_same, kr⟩) (.own ?_)⟩
      rw [← hp1.len]
      simp
    | _ => cases hf
end
end PL
/-! PL14: min, max, sorted of data. -/
namespace PL
open PySem PySem.Spec L2
set_option autoImplicit false
/-- the best of data by the library's order; what comes out is an item that reads as it -/
def rBest (K : PySem.W.Frag) (best : PyData → List PyData → PyData) : List V → Hp → VK → Prop := fun vs H Q => ∃ (a : Addr) (xs : List V) (p : PyData) (ps : List PyData), vs = [V.ref a] ∧ (SqL K H a xs ∨ SqT K H a xs) ∧ DpAll K H xs (p :: ps) ∧ PySem.W.AlikeAll (p :: ps) ∧ PyData.depthAll (p :: ps) ≤ 60 ∧
  ∀ (i : Nat) (x : V), xs[i]? = some x → (p :: ps)[i]? = some (best p ps) → Q x H
section
variable {X : Cx}
theorem readsAll_ix {h : Heap} : ∀ {us : List Value} {ds : List PyData} {as : List Addr} (i : Nat) {u : Value}, ReadsAll h us ds as → us[i]? = some u → ∃ d bs, ds[i]? = some d ∧ Reads h u d bs
  | _, _, _, 0, _, .cons r _, e => by simp at e; subst e; exact ⟨_, _, rfl, r⟩
  | _, _, _, i + 1, _, .cons _ t, e => by
    obtain ⟨d, bs, h1, h2⟩ := readsAll_ix i t (by simpa using e)
    exact ⟨d, bs, by simpa using h1, h2⟩
  | _, _, _, _, _, .nil, e => by simp at e
theorem vals_ix : ∀ {xs : List V} {us : List Value} (i : Nat) {u : Value}, Vals xs us → us[i]? = some u → ∃ x, xs[i]? = some x ∧ RelV x u
  | _, _, 0, _, .cons r _, e => by simp at e; subst e; exact ⟨_, rfl, r⟩
  | _, _, i + 1, _, .cons _ t, e => by
    obtain ⟨x, h1, h2⟩ := vals_ix i t (by simpa using e)
    exact ⟨x, by simpa using h1, h2⟩
  | _, _, _, _, .nil, e => by simp at e
theorem best_done {pins : List (Addr × Obj)} {σ : L2.St} {H : Hp} {s : Shared} {xs : List V} {us : List Value} {p : PyData} {ps : List PyData} {as : List Addr} {b : PyData} {Q : VK} (I : Inv X pins σ H s) (rv : Vals xs us) (hr : ReadsAll s.heap us (p :: ps) as)
    (q : ∀ (i : Nat) (x : V), xs[i]? = some x → (p :: ps)[i]? = some b → Q x H) {i : Nat} {v : Value} {h' : Heap} {tk : Nat} {bs : List Addr} (hv : us[i]? = some v) (rd : Reads h' v b bs) (keep : ∀ c o, s.heap.get? c = some o → h'.get? c = some o) :
    EP X pins σ Q v { s with heap := h', toks := tk } := by
  obtain ⟨x, e1, rx⟩ := vals_ix i rv hv
  obtain ⟨d, cs, e2, rd2⟩ := readsAll_ix i hr hv
  obtain ⟨e3, _⟩ := Reads.unique (PySem.W.reads_keeps keep rd2) b bs rd
  subst e3
  exact ⟨x, H, I.kept keep, rx, q i x e1 e2⟩
theorem cr_minA (hc : X.calm = true) (hu : X.A.units + 65 < cLine) : CallR X (.builtin "min") (rBest X.K PySem.W.minD) := by
  intro pins s σ H vs us Q I r h
  obtain ⟨a, xs, p, ps, rfl, hs, hd, al, dep, q⟩ := h
  rw [Vals.ref1 r]
  rcases hs with hs | hs
  · obtain ⟨its, rv, hl, _⟩ := I.list hs
    obtain ⟨as, hr⟩ := Dp.readsAll I _ _ _ hd rv
    exact PySem.W.min_list_data (I.ok.hd hc) hl.isList (by simpa using hr) al (by omega) fun i v h' tk bs hv rd keep => best_done I rv hr q (by simpa using hv) rd keep
  · obtain ⟨its, rv, hl, _⟩ := I.tuple hs
    obtain ⟨as, hr⟩ := Dp.readsAll I _ _ _ hd rv
    exact PySem.W.min_tuple_data (I.ok.hd hc) (show s.heap.IsTuple a its.toArray from hl) (by simpa using hr) al (by omega) fun i v h' tk bs hv rd keep => best_done I rv hr q (by simpa using hv) rd keep
theorem cr_maxA (hc : X.calm = true) (hu : X.A.units + 65 < cLine) : CallR X (.builtin "max") (rBest X.K PySem.W.maxD) := by
  intro pins s σ H vs us Q I r h
  obtain ⟨a, xs, p, ps, rfl, hs, hd, al, dep, q⟩ := h
  rw [Vals.ref1 r]
  rcases hs with hs | hs
  · obtain ⟨its, rv, hl, _⟩ := I.list hs
    obtain ⟨as, hr⟩ := Dp.readsAll I _ _ _ hd rv
    exact PySem.W.max_list_data (I.ok.hd hc) hl.isList (by simpa using hr) al (by omega) fun i v h' tk bs hv rd keep => best_done I rv hr q (by simpa using hv) rd keep
  · obtain ⟨its, rv, hl, _⟩ := I.tuple hs
    obtain ⟨as, hr⟩ := Dp.readsAll I _ _ _ hd rv
    exact PySem.W.max_tuple_data (I.ok.hd hc) (show s.heap.IsTuple a its.toArray from hl) (by simpa using hr) al (by omega) fun i v h' tk bs hv rd keep => best_done I rv hr q (by simpa using hv) rd keep
end
noncomputable def opBest (best : PyData → List PyData → PyData) (d : D) : Option D := (itemsOf d).bind fun xs => match pys xs with
  | some (p :: ps) => if okP (PySem.W.AlikeAll (p :: ps) ∧ depDs xs ≤ 60) = true then xs.find? (fun z => okP (py z = some (best p ps))) else none
  | _ => none
theorem pys_ix : ∀ {xs : List D} {ps : List PyData} (i : Nat) {p : PyData}, pys xs = some ps → ps[i]? = some p → ∃ x, xs[i]? = some x ∧ py x = some p
  | [], ps, i, p, h, e => by cases h; simp at e
  | x :: xs, ps, i, p, h, e => by
    obtain ⟨q, h1, h⟩ := bind2 h
    obtain ⟨qs, h2, rfl⟩ := Option.map_eq_some_iff.mp h
    cases i with
    | zero => simp at e; subst e; exact ⟨x, rfl, h1⟩
    | succ i =>
      obtain ⟨y, h3, h4⟩ := pys_ix i h2 (by simpa using e)
      exact ⟨y, by simpa using h3, h4⟩
theorem d_best {K : PySem.W.Frag} {best : PyData → List PyData → PyData} : D1Ok K (rBest K best) (opBest best) := by
  intro x H F dx d Q s rx hd q
  obtain ⟨xs, h1, hd⟩ := bind2 hd
  cases h2 : pys xs with
  | none => simp only [h2] at hd; cases hd
  | some ps =>
    cases ps with
    | nil => simp only [h2] at hd; cases hd
    | cons p ps =>
      simp only [h2] at hd
      split at hd
      · rename_i z
        obtain ⟨z1, z2⟩ := of_okP z
        have fin : ∀ (vs : List V), Reps K F vs xs → ∀ (i : Nat) (w : V), vs[i]? = some w → (p :: ps)[i]? = some (best p ps) → Q w H := by
          intro vs r1 i w e1 e2
          obtain ⟨y, e3, e4⟩ := pys_ix i h2 e2
          obtain ⟨w', e5, e6⟩ := r1.get e3
          rw [e1] at e5
          cases e5
          have e7 : py d = some (best p ps) := of_okP (List.find?_some (p := fun z => okP (py z = some (best p ps))) hd)
          have e8 := (py_inj _ _ _ _ e7 e4).mp ((py_inj _ _ _ _ e7 e7).mpr rfl)
          subst e8
          exact q _ H F (.refl s) e6
        have dep : PyData.depthAll (p :: ps) ≤ 60 := by rw [(pys_shape xs _ h2).2]; exact z2
        cases dx with
        | lst ys =>
          cases h1
          obtain ⟨a, vs, rfl, g1, zz, r1⟩ := rx.list s
          exact ⟨a, vs, p, ps, rfl, .inl (.of g1), dps_of s _ _ _ h2 r1, z1, dep, fin vs r1⟩
        | tup ys =>
          cases h1
          obtain ⟨a, vs, rfl, f1, g1, zz, r1⟩ := rx.tup s
          exact ⟨a, vs, p, ps, rfl, .inr (.of g1), dps_of s _ _ _ h2 r1, z1, dep, fin vs r1⟩
        | _ => cases h1
      · cases hd
section
variable {X : Cx} {a : Expr} {fa : Ex} {p pos : Pos}
theorem q_minA (hc : X.calm = true) (hu : X.A.units + 65 < cLine) (hm : X.mg "min" = none) (ha : PE X a (tE X.K fa)) (hg : Gl X "min" := by rfl) (hs : starEach [a] X.env = (false, eval a X.env) :: starEach [] X.env := by rfl) (hpl : (backTo pos (starEach [] X.env)).any (·.1) = false := by rfl) : PE X (.Call (.Name "min" p) [a] [] pos) (tE X.K (eUn (opBest PySem.W.minD) fa)) :=
  r_b1 (cr_minA hc hu) d_best hg hm (by decide +kernel) ha (by decide) (by decide) hs hpl
theorem q_maxA (hc : X.calm = true) (hu : X.A.units + 65 < cLine) (hm : X.mg "max" = none) (ha : PE X a (tE X.K fa)) (hg : Gl X "max" := by rfl) (hs : starEach [a] X.env = (false, eval a X.env) :: starEach [] X.env := by rfl) (hpl : (backTo pos (starEach [] X.env)).any (·.1) = false := by rfl) : PE X (.Call (.Name "max" p) [a] [] pos) (tE X.K (eUn (opBest PySem.W.maxD) fa)) :=
  r_b1 (cr_maxA hc hu) d_best hg hm (by decide +kernel) ha (by decide) (by decide) hs hpl
end
end PL
/-! PL15: zip of two sequences, each a list or a tuple. -/
namespace PLz
open PySem L2 PyProof.Rows
/-- one side of a zip: its iterator and what it walks over -/
structure Side where
  it : Heap → Addr → Addr → Nat → Prop
  src : Heap → Addr → Array Value → Prop
def sideL : Side := ⟨Heap.IsListIter, Heap.IsList⟩
def sideT : Side := ⟨Heap.IsTupleIter, Heap.IsTuple⟩
structure SideOk (S : Side) : Prop where
  item : ∀ {prog : Program} {w : World} {A : Around} {E : Value → Shared → Prop} {s : Shared} {i l : Addr} {k : Nat} {xs : Array Value} {x : Value} {Q : Value → Shared → Prop}, S.it s.heap i l k → S.src s.heap l xs → xs[k]? = some x →
    (∀ h', S.it h' i l (k + 1) → Heap.SameBut i s.heap h' → Q x { s with heap := h' }) → wpAny (model prog w) A (Builtin.SmallTypes.nextOf (.ref i)) Q E s
  stop : ∀ {prog : Program} {w : World} {A : Around} {E : Value → Shared → Prop} {s : Shared} {i l : Addr} {k : Nat} {xs : Array Value} {Q : Value → Shared → Prop}, A.handled = none → S.it s.heap i l k → S.src s.heap l xs → xs[k]? = none →
    (∀ h' e, Heap.ExtBut i s.heap h' → (∃ o, h'.get? e = some o ∧ o.cls = .type "StopIteration") → E (.ref e) { s with heap := h' }) → wpAny (model prog w) A (Builtin.SmallTypes.nextOf (.ref i)) Q E s
  itAt : ∀ {h h' : Heap} {i l : Addr} {k : Nat}, S.it h i l k → (∀ o, h.get? i = some o → h'.get? i = some o) → S.it h' i l k
  srcAt : ∀ {h h' : Heap} {l : Addr} {xs : Array Value}, S.src h l xs → (∀ o, h.get? l = some o → h'.get? l = some o) → S.src h' l xs
  obj : ∀ {h : Heap} {i l : Addr} {k : Nat}, S.it h i l k → ∃ o, h.get? i = some o ∧ ∀ v, o.data ≠ .cell v
theorem okL : SideOk sideL where
  item := fun a b c d => wpAny_nextOf_list_item a b c d
  stop := fun hh a b c d => wpAny_nextOf_list_end hh a b c d
  itAt := fun a e => Heap.IsListIter.at a e
  srcAt := fun ⟨o, ho, r⟩ e => ⟨o, e _ ho, r⟩
  obj := fun ⟨o, e, _, d⟩ => ⟨o, e, fun v q => by rw [d] at q; cases q⟩
theorem okT : SideOk sideT where
  item := fun a b c d => RZ.nextOf_tuple_item a b c d
  stop := fun hh a b c d => RZ.nextOf_tuple_end hh a b c d
  itAt := fun a e => Heap.IsTupleIter.at a e
  srcAt := fun ⟨o, ho, r⟩ e => ⟨o, e _ ho, r⟩
  obj := fun ⟨o, e, _, d⟩ => ⟨o, e, fun v q => by rw [d] at q; cases q⟩
section
variable {prog : Program} {w : World} {A : Around} {E : Value → Shared → Prop} {s : Shared} {S T : Side} {z TI TO i1 i2 l1 l2 : Addr} {k1 k2 : Nat} {xs ys : Array Value}
theorem next_item (oS : SideOk S) (oT : SideOk T) {x y a b : Value} {Q : Value → Shared → Prop} (D : ZipApart z TI TO i1 i2 l1 l2) (hz : IsZip s.heap z TI TO .none) (hI : IsPair s.heap TI (.ref i1) (.ref i2)) (hO : IsPair s.heap TO a b)
    (h1 : S.it s.heap i1 l1 k1) (h2 : T.it s.heap i2 l2 k2) (g1 : S.src s.heap l1 xs) (g2 : T.src s.heap l2 ys) (hx : xs[k1]? = some x) (hy : ys[k2]? = some y)
    (q : ∀ h', IsZip h' z TI TO (rawInt s.heap.objs.size) → IsPair h' TO x y → S.it h' i1 l1 (k1 + 1) → T.it h' i2 l2 (k2 + 1) → IsPair h' s.heap.objs.size x y → h'.objs.size = s.heap.objs.size + 1 →
      (∀ c o, c ≠ z → c ≠ TO → c ≠ i1 → c ≠ i2 → s.heap.get? c = some o → h'.get? c = some o) → Q (.ref s.heap.objs.size) { s with heap := h' }) :
    wpAny (model prog w) A (Builtin.«zip.__next__» ⟨[.ref z], []⟩) (fun fin s' => ∃ v, fin = .done (.ret v) ∧ Q v s') E s := by
  show wpAny _ _ (field (.ref z) 2 >>= _) _ _ _
  apply wpAny_bind; apply wpAny_field (x := .bool false) hz rfl rfl
  show wpAny _ _ (field (.ref z) 3 >>= _) _ _ _
  apply wpAny_bind; apply wpAny_field (x := .ref TI) hz rfl rfl
  apply wpAny_bind; apply wpAny_seqItems hI rfl
  show wpAny _ _ (Builtin.SmallTypes.ownedTupleIsFree (.ref z) >>= _) _ _ _
  apply wpAny_bind; unfold Builtin.SmallTypes.ownedTupleIsFree
  apply wpAny_bind; apply wpAny_field (x := .none) hz rfl rfl; apply wpAny_pure
  simp only [if_true]
  apply wpAny_bind; apply wpAny_rule; apply wpAny_bind; apply wpAny_field (x := .ref TO) hz rfl rfl
  apply wpAny_bind; apply wpAny_setField_rec hz (by simp); intro m1 hz1 c1
  have hz1 : IsZip m1 z TI TO .ellipsis := hz1
  apply wpAny_bind; simp only [List.zipIdx_cons, List.zipIdx_nil, List.forIn_cons, List.forIn_nil]
  apply wpAny_bind; apply wpAny_bind; apply wpAny_onRaise
  show wpAny _ _ (Builtin.SmallTypes.nextOf (.ref i1) >>= _) _ _ _
  have k1' : ∀ c o, c ≠ z → s.heap.get? c = some o → m1.get? c = some o := fun c o n e => c1.extBut _ _ n e
  apply wpAny_bind; apply oS.item (oS.itAt h1 fun o e => k1' _ o D.i1z e) (oS.srcAt g1 fun o e => k1' _ o D.l1z e) hx; intro m2 p2 c2; apply wpAny_pure
  have k2' : ∀ c o, c ≠ i1 → m1.get? c = some o → m2.get? c = some o := fun c o n e => c2.extBut _ _ n e
  have hO2 : IsPair m2 TO a b := k2' _ _ D.TOi1 (k1' _ _ D.TOz hO)
  apply wpAny_bind; apply wpAny_seqItems hO2 rfl
  apply wpAny_bind; apply wpAny_updateSeq_pair hO2; intro m3 hO3 c3
  have hO3 : IsPair m3 TO x b := hO3
  have k3' : ∀ c o, c ≠ TO → m2.get? c = some o → m3.get? c = some o := fun c o n e => c3.extBut _ _ n e
  apply wpAny_bind; apply wpAny_letGo; apply wpAny_pure
  apply wpAny_bind; apply wpAny_bind; apply wpAny_onRaise
  show wpAny _ _ (Builtin.SmallTypes.nextOf (.ref i2) >>= _) _ _ _
  apply wpAny_bind
  apply oT.item (oT.itAt h2 fun o e => k3' _ _ D.TOi2.symm (k2' _ _ D.i12.symm (k1' _ o D.i2z e))) (oT.srcAt g2 fun o e => k3' _ _ D.l2TO (k2' _ _ D.l2i1 (k1' _ o D.l2z e))) hy
  intro m4 p4 c4; apply wpAny_pure
  have k4' : ∀ c o, c ≠ i2 → m3.get? c = some o → m4.get? c = some o := fun c o n e => c4.extBut _ _ n e
  have hO4 : IsPair m4 TO x b := k4' _ _ D.TOi2 hO3
  apply wpAny_bind; apply wpAny_seqItems hO4 rfl
  apply wpAny_bind; apply wpAny_updateSeq_pair hO4; intro m5 hO5 c5
  have hO5 : IsPair m5 TO x y := hO5
  have k5' : ∀ c o, c ≠ TO → m4.get? c = some o → m5.get? c = some o := fun c o n e => c5.extBut _ _ n e
  apply wpAny_bind; apply wpAny_letGo; apply wpAny_pure; apply wpAny_pure
  apply wpAny_bind; apply wpAny_seqItems hO5 rfl
  apply wpAny_bind; refine wpAny_newTuple ?_
  have sz : m5.objs.size = s.heap.objs.size := by rw [c5.1, c4.1, c3.1, c2.1, c1.1]
  have all : ∀ c o, c ≠ z → c ≠ TO → c ≠ i1 → c ≠ i2 → s.heap.get? c = some o → m5.get? c = some o := fun c o n1 n2 n3 n4 e => k5' _ _ n2 (k4' _ _ n4 (k3' _ _ n2 (k2' _ _ n3 (k1' _ _ n1 e))))
  have hz5 : IsZip m5 z TI TO .ellipsis := k5' _ _ D.TOz.symm (k4' _ _ D.i2z.symm (k3' _ _ D.TOz.symm (k2' _ _ D.i1z.symm hz1)))
  have p5 : S.it m5 i1 l1 (k1 + 1) := oS.itAt p2 fun o e => k5' _ _ D.TOi1.symm (k4' _ _ D.i12 (k3' _ _ D.TOi1.symm e))
  have r5 : T.it m5 i2 l2 (k2 + 1) := oT.itAt p4 fun o e => k5' _ _ D.TOi2.symm e
  have zl : z < m5.objs.size := Heap.lt_size hz5
  show wpAny _ _ (Builtin.SmallTypes.ownedTupleHandOut (.ref z) (.ref m5.objs.size) >>= _) _ _ _
  apply wpAny_bind; unfold Builtin.SmallTypes.ownedTupleHandOut
  have hz6 : IsZip (m5.push { cls := .type "tuple", data := .seq #[x, y] }) z TI TO .ellipsis := Heap.get?_push_of_some _ hz5
  apply wpAny_bind; apply wpAny_setField_rec hz6 (by simp); intro m7 hz7 c7
  have hz7 : IsZip m7 z TI TO (rawInt m5.objs.size) := hz7
  apply wpAny_setField_rec hz7 (by simp); intro m8 hz8 c8
  have hz8 : IsZip m8 z TI TO (rawInt m5.objs.size) := hz8
  have up : ∀ c o, c ≠ z → m5.get? c = some o → m8.get? c = some o := fun c o n e => c8.extBut _ _ n (c7.extBut _ _ n (Heap.get?_push_of_some _ e))
  have hN : IsPair m8 m5.objs.size x y := c8.extBut _ _ (Nat.ne_of_gt zl) (c7.extBut _ _ (Nat.ne_of_gt zl) (Heap.get?_push_size _ rfl))
  have s8 : m8.objs.size = m5.objs.size + 1 := by rw [c8.1, c7.1, Heap.size_push]
  rw [sz] at hz8 hN s8
  apply wpAny_pure; refine ⟨_, rfl, ?_⟩
  show Q (.ref m5.objs.size) _
  rw [sz]
  exact q m8 hz8 (up _ _ D.TOz hO5) (oS.itAt p5 fun o e => up _ o D.i1z e) (oT.itAt r5 fun o e => up _ o D.i2z e) hN s8 fun c o n1 n2 n3 n4 e => up c o n1 (all c o n1 n2 n3 n4 e)
theorem next_stop (oS : SideOk S) (oT : SideOk T) {a b : Value} {Q : Fin → Shared → Prop} (hh : A.handled = none) (D : ZipApart z TI TO i1 i2 l1 l2) (hz : IsZip s.heap z TI TO .none) (hI : IsPair s.heap TI (.ref i1) (.ref i2)) (hO : IsPair s.heap TO a b)
    (h1 : S.it s.heap i1 l1 k1) (h2 : T.it s.heap i2 l2 k2) (g1 : S.src s.heap l1 xs) (g2 : T.src s.heap l2 ys) (hend : xs[k1]? = none ∨ ys[k2]? = none)
    (q : ∀ h' e, (∀ c o, c ≠ z → c ≠ TO → c ≠ i1 → c ≠ i2 → s.heap.get? c = some o → h'.get? c = some o) → (∃ o, h'.get? e = some o ∧ o.cls = .type "StopIteration") → E (.ref e) { s with heap := h' }) :
    wpAny (model prog w) A (Builtin.«zip.__next__» ⟨[.ref z], []⟩) Q E s := by
  show wpAny _ _ (field (.ref z) 2 >>= _) _ _ _
  apply wpAny_bind; apply wpAny_field (x := .bool false) hz rfl rfl
  show wpAny _ _ (field (.ref z) 3 >>= _) _ _ _
  apply wpAny_bind; apply wpAny_field (x := .ref TI) hz rfl rfl
  apply wpAny_bind; apply wpAny_seqItems hI rfl
  show wpAny _ _ (Builtin.SmallTypes.ownedTupleIsFree (.ref z) >>= _) _ _ _
  apply wpAny_bind; unfold Builtin.SmallTypes.ownedTupleIsFree
  apply wpAny_bind; apply wpAny_field (x := .none) hz rfl rfl; apply wpAny_pure
  simp only [if_true]
  apply wpAny_bind; apply wpAny_rule; apply wpAny_bind; apply wpAny_field (x := .ref TO) hz rfl rfl
  apply wpAny_bind; apply wpAny_setField_rec hz (by simp); intro m1 hz1 c1
  have hz1 : IsZip m1 z TI TO .ellipsis := hz1
  apply wpAny_bind; simp only [List.zipIdx_cons, List.zipIdx_nil, List.forIn_cons, List.forIn_nil]
  apply wpAny_bind; apply wpAny_bind; apply wpAny_onRaise
  show wpAny _ _ (Builtin.SmallTypes.nextOf (.ref i1) >>= _) _ _ _
  have k1' : ∀ c o, c ≠ z → s.heap.get? c = some o → m1.get? c = some o := fun c o n e => c1.extBut _ _ n e
  cases hx : xs[k1]? with
  | none =>
    apply wpAny_bind; apply oS.stop hh (oS.itAt h1 fun o e => k1' _ o D.i1z e) (oS.srcAt g1 fun o e => k1' _ o D.l1z e) hx; intro m2 e c2 he
    obtain ⟨oe, e1, e2⟩ := he
    have hz2 : IsZip m2 z TI TO .ellipsis := c2 _ _ D.i1z.symm hz1
    have ez : e ≠ z := fun q => by subst q; rw [hz2] at e1; cases e1; simp at e2
    apply wpAny_setField_rec hz2 (by simp); intro m3 _ c3
    exact q m3 e (fun c o n1 _ n3 _ w => c3.extBut _ _ n1 (c2 _ _ n3 (k1' _ _ n1 w))) ⟨oe, c3.extBut _ _ ez e1, e2⟩
  | some x =>
    have hy : ys[k2]? = none := hend.elim (fun h => by rw [hx] at h; cases h) id
    apply wpAny_bind; apply oS.item (oS.itAt h1 fun o e => k1' _ o D.i1z e) (oS.srcAt g1 fun o e => k1' _ o D.l1z e) hx; intro m2 p2 c2; apply wpAny_pure
    have k2' : ∀ c o, c ≠ i1 → m1.get? c = some o → m2.get? c = some o := fun c o n e => c2.extBut _ _ n e
    have hO2 : IsPair m2 TO a b := k2' _ _ D.TOi1 (k1' _ _ D.TOz hO)
    apply wpAny_bind; apply wpAny_seqItems hO2 rfl
    apply wpAny_bind; apply wpAny_updateSeq_pair hO2; intro m3 hO3 c3
    have k3' : ∀ c o, c ≠ TO → m2.get? c = some o → m3.get? c = some o := fun c o n e => c3.extBut _ _ n e
    apply wpAny_bind; apply wpAny_letGo; apply wpAny_pure
    apply wpAny_bind; apply wpAny_bind; apply wpAny_onRaise
    show wpAny _ _ (Builtin.SmallTypes.nextOf (.ref i2) >>= _) _ _ _
    apply wpAny_bind
    apply oT.stop hh (oT.itAt h2 fun o e => k3' _ _ D.TOi2.symm (k2' _ _ D.i12.symm (k1' _ o D.i2z e))) (oT.srcAt g2 fun o e => k3' _ _ D.l2TO (k2' _ _ D.l2i1 (k1' _ o D.l2z e))) hy
    intro m4 e c4 he
    obtain ⟨oe, e1, e2⟩ := he
    have hz4 : IsZip m4 z TI TO .ellipsis := c4 _ _ D.i2z.symm (k3' _ _ D.TOz.symm (k2' _ _ D.i1z.symm hz1))
    have ez : e ≠ z := fun q => by subst q; rw [hz4] at e1; cases e1; simp at e2
    apply wpAny_setField_rec hz4 (by simp); intro m5 _ c5
    exact q m5 e (fun c o n1 n2 n3 n4 w => c5.extBut _ _ n1 (c4 _ _ n4 (k3' _ _ n2 (k2' _ _ n3 (k1' _ _ n1 w))))) ⟨oe, c5.extBut _ _ ez e1, e2⟩
end
section
variable {prog : Program} {w : World} {A : Around} {E : Value → Shared → Prop} {s : Shared} {S T : Side} {z TI TO i1 i2 l1 l2 : Addr} {k1 k2 : Nat} {xs ys : Array Value}
theorem pyNext_item (oS : SideOk S) (oT : SideOk T) {x y a b : Value} {Q : Option Value → Shared → Prop} (D : ZipApart z TI TO i1 i2 l1 l2) (hz : IsZip s.heap z TI TO .none) (hI : IsPair s.heap TI (.ref i1) (.ref i2)) (hO : IsPair s.heap TO a b)
    (h1 : S.it s.heap i1 l1 k1) (h2 : T.it s.heap i2 l2 k2) (g1 : S.src s.heap l1 xs) (g2 : T.src s.heap l2 ys) (hx : xs[k1]? = some x) (hy : ys[k2]? = some y)
    (q : ∀ h', IsZip h' z TI TO (rawInt s.heap.objs.size) → IsPair h' TO x y → S.it h' i1 l1 (k1 + 1) → T.it h' i2 l2 (k2 + 1) → IsPair h' s.heap.objs.size x y → h'.objs.size = s.heap.objs.size + 1 →
      (∀ c o, c ≠ z → c ≠ TO → c ≠ i1 → c ≠ i2 → s.heap.get? c = some o → h'.get? c = some o) → Q (some (.ref s.heap.objs.size)) { s with heap := h' }) : wpAny (model prog w) A (pyNext (.ref z)) Q E s := by
  have ty : s.TypeIs (.ref z) "zip" := ⟨_, hz, rfl⟩
  unfold pyNext; apply wpAny_bind; apply wpAny_attempt
  apply wpAny_callSpecial?_slot (name := Str.ofString "__next__") ty F.slot_zip_next
  apply wpAny_call_entry F.slot_zip_next ty F.entry_zip_next _ (F.args_zip_next_1 _)
  exact next_item oS oT D hz hI hO h1 h2 g1 g2 hx hy fun h' a1 a2 a3 a4 a5 a6 a7 => wpAny_pure (q h' a1 a2 a3 a4 a5 a6 a7)
theorem pyNext_stop (oS : SideOk S) (oT : SideOk T) {a b : Value} {Q : Option Value → Shared → Prop} (hh : A.handled = none) (D : ZipApart z TI TO i1 i2 l1 l2) (hz : IsZip s.heap z TI TO .none) (hI : IsPair s.heap TI (.ref i1) (.ref i2)) (hO : IsPair s.heap TO a b)
    (h1 : S.it s.heap i1 l1 k1) (h2 : T.it s.heap i2 l2 k2) (g1 : S.src s.heap l1 xs) (g2 : T.src s.heap l2 ys) (hend : xs[k1]? = none ∨ ys[k2]? = none)
    (q : ∀ h', (∀ c o, c ≠ z → c ≠ TO → c ≠ i1 → c ≠ i2 → s.heap.get? c = some o → h'.get? c = some o) → Q none { s with heap := h' }) : wpAny (model prog w) A (pyNext (.ref z)) Q E s := by
  have ty : s.TypeIs (.ref z) "zip" := ⟨_, hz, rfl⟩
  unfold pyNext; apply wpAny_bind; apply wpAny_attempt
  apply wpAny_callSpecial?_slot (name := Str.ofString "__next__") ty F.slot_zip_next
  apply wpAny_call_entry F.slot_zip_next ty F.entry_zip_next _ (F.args_zip_next_1 _)
  refine next_stop oS oT hh D hz hI hO h1 h2 g1 g2 hend fun h' e keep ⟨o, e1, e2⟩ => ?_
  refine wpAny_bind (wpAny_isInstance (T := "StopIteration") (b := true) ⟨o, e1, e2⟩ isSubtype_stop (wpAny_pure (q _ keep)))
end
/-! the objects that zip(list, tuple) makes -/
abbrev n1 (h : Heap) (l1 : Addr) : Heap := h.push { cls := .type "list_iterator", data := .fields #[.ref l1, .int 0 0] }
abbrev n2 (h : Heap) (l1 l2 : Addr) : Heap := (n1 h l1).push { cls := .type "tuple_iterator", data := .fields #[.ref l2, .int 0 0] }
abbrev n3 (h : Heap) (l1 l2 : Addr) : Heap := (n2 h l1 l2).push { cls := .type "tuple", data := .seq #[.ref h.objs.size, .ref (n1 h l1).objs.size] }
abbrev n4 (h : Heap) (l1 l2 : Addr) : Heap := (n3 h l1 l2).push { cls := .type "tuple", data := .seq #[.none, .none] }
abbrev n5 (h : Heap) (l1 l2 : Addr) : Heap := (n4 h l1 l2).push { cls := .type "zip", data := .fields #[.none, .bool false, .bool false, .ref (n2 h l1 l2).objs.size, .ref (n3 h l1 l2).objs.size] }
theorem new_LT (l1 l2 : Addr) (xs ys : Array Value) : Meets (Builtin.«zip.__new__» ⟨[.type "zip", .ref l1, .ref l2], []⟩) (fun _ R s => s.heap.IsList l1 xs ∧ s.heap.IsTuple l2 ys ∧ R (.ok (.ret (.ref (n4 s.heap l1 l2).objs.size))) { s with heap := n5 s.heap l1 l2 }) := by
  refine .of_wp fun prog w A R s h => ?_
  obtain ⟨hp, g, d, tk, os⟩ := s
  obtain ⟨hl1, hl2, h⟩ := h
  have isz := sub_zip
  have a1 : Heap.IsList (Shared.heap ⟨hp, g, d, tk, os⟩) l1 xs := hl1
  have a2 : Heap.IsTuple (Shared.heap ⟨n1 hp l1, g, d, tk, os⟩) l2 ys := Heap.IsTuple.push hl2 _
  wp_walk using wpAny_pyIter_list a1, wpAny_pyIter_tuple a2
  exact ⟨_, rfl, h⟩
section
variable {prog : Program} {w : World} {A : Around} {E : Value → Shared → Prop} {s : Shared}
theorem call_LT {l1 l2 : Addr} {xs ys : Array Value} {Q : Value → Shared → Prop} (hl1 : s.heap.IsList l1 xs) (hl2 : s.heap.IsTuple l2 ys)
    (q : ∀ h', IsZip h' (s.heap.objs.size + 4) (s.heap.objs.size + 2) (s.heap.objs.size + 3) .none → IsPair h' (s.heap.objs.size + 2) (.ref s.heap.objs.size) (.ref (s.heap.objs.size + 1)) →
      IsPair h' (s.heap.objs.size + 3) .none .none → h'.IsListIter s.heap.objs.size l1 0 → h'.IsTupleIter (s.heap.objs.size + 1) l2 0 → (∀ c o, s.heap.get? c = some o → h'.get? c = some o) → Q (.ref (s.heap.objs.size + 4)) { s with heap := h' }) :
    wpAny (model prog w) A (call (.type "zip") [.ref l1, .ref l2]) Q E s := by
  refine callType_new F.called_zip (by decide) (F.typeCall_zip_2 _ _) (F.newCall_zip_2 _ _) (fun obj => F.args_object_init_3 obj _ _) F.entry_zip_new (new_LT l1 l2 xs ys) ⟨hl1, hl2, ?_⟩
  have t1 : (n1 s.heap l1).objs.size = s.heap.objs.size + 1 := Heap.size_push ..
  have t2 : (n2 s.heap l1 l2).objs.size = s.heap.objs.size + 2 := by rw [Heap.size_push, t1]
  have t3 : (n3 s.heap l1 l2).objs.size = s.heap.objs.size + 3 := by rw [Heap.size_push, t2]
  have t4 : (n4 s.heap l1 l2).objs.size = s.heap.objs.size + 4 := by rw [Heap.size_push, t3]
  have u1 : ∀ {c o}, s.heap.get? c = some o → (n1 s.heap l1).get? c = some o := fun e => Heap.get?_push_of_some _ e
  have u2 : ∀ {c o}, (n1 s.heap l1).get? c = some o → (n2 s.heap l1 l2).get? c = some o := fun e => Heap.get?_push_of_some _ e
  have u3 : ∀ {c o}, (n2 s.heap l1 l2).get? c = some o → (n3 s.heap l1 l2).get? c = some o := fun e => Heap.get?_push_of_some _ e
  have u4 : ∀ {c o}, (n3 s.heap l1 l2).get? c = some o → (n4 s.heap l1 l2).get? c = some o := fun e => Heap.get?_push_of_some _ e
  have u5 : ∀ {c o}, (n4 s.heap l1 l2).get? c = some o → (n5 s.heap l1 l2).get? c = some o := fun e => Heap.get?_push_of_some _ e
  have g5 : (n5 s.heap l1 l2).get? (n4 s.heap l1 l2).objs.size = some _ := Heap.get?_push_size _ rfl
  have g4 : (n5 s.heap l1 l2).get? (n3 s.heap l1 l2).objs.size = some _ := u5 (Heap.get?_push_size _ rfl)
  have g3 : (n5 s.heap l1 l2).get? (n2 s.heap l1 l2).objs.size = some _ := u5 (u4 (Heap.get?_push_size _ rfl))
  have g2 : (n5 s.heap l1 l2).get? (n1 s.heap l1).objs.size = some _ := u5 (u4 (u3 (Heap.get?_push_size _ rfl)))
  have g1 : (n5 s.heap l1 l2).get? s.heap.objs.size = some _ := u5 (u4 (u3 (u2 (Heap.get?_push_size _ rfl))))
  show _ ∧ _
  rw [t2, t3, t4] at g5
  rw [t1, t2] at g3
  rw [t3] at g4
  rw [t1] at g2
  rw [t4]
  exact ⟨⟨_, g5, rfl⟩, q _ g5 g3 g4 ⟨_, g1, rfl, rfl⟩ ⟨_, g2, rfl, rfl⟩ fun c o e => u5 (u4 (u3 (u2 (u1 e))))⟩
end
/-- a list and a tuple walked side by side -/
def ItLT (K : PySem.W.Frag) (a b : Addr) : It where
  go := fun i H => ∃ (xs ys : List V) (x y : V), SqL K H a xs ∧ SqT K H b ys ∧ xs[i]? = some x ∧ ys[i]? = some y
  yld := fun i H v H' => ∃ T x y, v = .ref T ∧ H T = none ∧ H' = upd H T (.tup [x, y]) ∧ (∀ xs, SqL K H a xs → xs[i]? = some x) ∧ ∀ ys, SqT K H b ys → ys[i]? = some y
  stop := fun i H => ∃ xs ys : List V, SqL K H a xs ∧ SqT K H b ys ∧ (xs.length ≤ i ∨ ys.length ≤ i)
theorem turn_LT {P : Program} {w : World} {K : PySem.W.Frag} {elts : List Expr} {kk : Nat} {tpos : Pos} {a b z TI TO i1 i2 : Addr} (D : ZipApart z TI TO i1 i2 a b) :
    Turn P w K (.Tuple elts kk tpos) (ItLT K a b) [z, TI, TO, i1, i2] z (fun i h => IsZip h z TI TO .none ∧ IsPair h TI (.ref i1) (.ref i2) ∧ (∃ x y, IsPair h TO x y) ∧ sideL.it h i1 a i ∧ sideT.it h i2 b i) where
  mem := List.mem_cons_self
  obj := fun i h ⟨hz, hI, ⟨x, y, hO⟩, h1, h2⟩ c hc => by
    simp only [List.mem_cons, List.not_mem_nil, or_false] at hc
    rcases hc with rfl | rfl | rfl | rfl | rfl
    · exact ⟨_, hz, fun v q => nomatch q⟩
    · exact ⟨_, hI, fun v q => nomatch q⟩
    · exact ⟨_, hO, fun v q => nomatch q⟩
    · exact okL.obj h1
    · exact okT.obj h2
  keep := fun i h h' ⟨hz, hI, ⟨x, y, hO⟩, h1, h2⟩ k => ⟨k z (by simp) _ hz, k TI (by simp) _ hI, ⟨x, y, k TO (by simp) _ hO⟩, okL.itAt h1 fun o q => k i1 (by simp) o q, okT.itAt h2 fun o q => k i2 (by simp) o q⟩
  item := by
    intro X hP hw hK hc i pins s σ H E I hf st hg
    subst hP hw hK
    obtain ⟨hz, hI, ⟨x0, y0, hO⟩, h1, h2⟩ := st
    obtain ⟨xs, ys, x, y, qx, qy, hx, hy⟩ := hg
    obtain ⟨its, rv, p, _⟩ := I.list qx
    obtain ⟨its2, rv2, p2, _⟩ := I.tuple qy
    obtain ⟨u, hu, ru⟩ := rv.get hx
    obtain ⟨u2, hu2, ru2⟩ := rv2.get hy
    have zl : z < s.heap.objs.size := Heap.lt_size hz
    refine pyNext_item okL okT D hz hI hO h1 h2 p.isList p2 (x := u) (y := u2) (by simpa using hu) (by simpa using hu2) fun h' z' O' j1 j2 hT hsz hk => ?_
    refine ⟨_, rfl, wpAny_letOwnedTupleGo_zip (s := { s with heap := h' }) z' fun h2' z'' sb => ?_⟩
    have keepb : ∀ c o, c ≠ z → h'.get? c = some o → h2'.get? c = some o := fun c o n e => (sb.2 c n).trans e
    have hN : h2'.get? s.heap.objs.size = some { cls := .type "tuple", data := .seq #[u, u2] } := keepb _ _ (Nat.ne_of_gt zl) hT
    have newOk : ObjOk X.prog X.w (upd H s.heap.objs.size (.tup [x, y])) h2' s.heap.objs.size (.tup [x, y]) := ⟨by show 2 ≤ sizeLine; decide, [u, u2], .cons ru (.cons ru2 .nil), ⟨_, hN, rfl, _, rfl⟩⟩
    have I1 : Inv X pins σ (upd H s.heap.objs.size (.tup [x, y])) { s with heap := h2' } :=
      I.turnedNew (t' := s.toks) (ch := [z, TI, TO, i1, i2]) (fun c o hb q => keepb c o (fun e => hb (by simp [e])) (hk c o (fun e => hb (by simp [e])) (fun e => hb (by simp [e])) (fun e => hb (by simp [e])) (fun e => hb (by simp [e])) q)) hf (Nat.le_refl _) newOk
    refine ⟨.ref s.heap.objs.size, _, I1, rfl, ⟨_, x, y, rfl, I.hok.fresh (Nat.le_refl _), rfl, fun l hl => by rw [I.list_inj hl qx]; exact hx, fun l hl => by rw [I.tuple_inj hl qy]; exact hy⟩, ⟨z'', ?_, ⟨u, u2, ?_⟩, ?_, ?_⟩, fun c hcm => ?_⟩
    · exact keepb _ _ D.TIz (hk _ _ D.TIz D.TITO D.TIi1 D.TIi2 hI)
    · exact keepb _ _ D.TOz O'
    · exact okL.itAt j1 fun o q => keepb _ o D.i1z q
    · exact okT.itAt j2 fun o q => keepb _ o D.i2z q
    · have lt : c < s.heap.objs.size := by
        simp only [List.mem_cons, List.not_mem_nil, or_false] at hcm
        rcases hcm with rfl | rfl | rfl | rfl | rfl
        · exact zl
        · exact Heap.lt_size hI
        · exact Heap.lt_size hO
        · obtain ⟨_, e1, _⟩ := h1; exact Heap.lt_size e1
        · obtain ⟨_, e2, _⟩ := h2; exact Heap.lt_size e2
      rw [upd_ne (Nat.ne_of_lt lt)]
      exact (hf c hcm).1
  done := by
    intro X hP hw hK hc i pins s σ H E I hf st hg
    subst hP hw hK
    obtain ⟨hz, hI, ⟨x0, y0, hO⟩, h1, h2⟩ := st
    obtain ⟨xs, ys, qx, qy, hend⟩ := hg
    obtain ⟨its, rv, p, _⟩ := I.list qx
    obtain ⟨its2, rv2, p2, _⟩ := I.tuple qy
    have l1 := rv.length
    have l2 := rv2.length
    have he : its.toArray[i]? = none ∨ its2.toArray[i]? = none := hend.imp (fun q => by simp; omega) (fun q => by simp; omega)
    refine pyNext_stop okL okT (I.ok.hd hc) D hz hI hO h1 h2 p.isList p2 he fun h' hk => ⟨rfl, ?_⟩
    exact I.turnedL (t' := s.toks) (ch := [z, TI, TO, i1, i2]) (fun c o hb q => hk c o (fun e => hb (by simp [e])) (fun e => hb (by simp [e])) (fun e => hb (by simp [e])) (fun e => hb (by simp [e])) q) hf
  self := fun A i s Q E st h => wpAny_pyIter_zip st.1 h
def iZipLT (K : PySem.W.Frag) (ta : TA) : TI := fun σ H R => ta σ H fun vs H1 => ∃ a b xs ys, vs = [.ref a, .ref b] ∧ SqL K H1 a xs ∧ SqT K H1 b ys ∧ R (ItLT K a b) H1
theorem pi_zipLT {X : Cx} {e e2 : Expr} {ta : TA} {p pos tpos : Pos} {elts : List Expr} {kk : Nat} (hg : Gl X "zip") (hm : X.mg "zip" = none) (ha : PA X [e, e2] ta) (hs : starEach [e, e2] X.env = (false, eval e X.env) :: starEach [e2] X.env := by rfl) (hpl : (backTo pos (starEach [e2] X.env)).any (·.1) = false := by rfl) :
    PI X (.Tuple elts kk tpos) (.Call (.Name "zip" p) [e, e2] [] pos) (iZipLT X.K ta) := by
  refine ⟨fun pins s σ H R I h => Call_ (ld_blt I hg hm boot_zip (callWith_type1 (thn (ha.run pos pins s σ H _ I h) fun us s1 ⟨vs, H1, I1, r1, a, b, xs, ys, ex, qx, qy, q⟩ => ?_) hs hpl))⟩
  subst ex
  cases r1 with
  | cons r rr => cases rr with
    | cons r' rr =>
      cases rr; cases r; cases r'
      obtain ⟨its, rv, p1, _⟩ := I1.list qx
      obtain ⟨its2, rv2, p2, _⟩ := I1.tuple qy
      obtain ⟨o2, ho2, _⟩ := id p2
      refine call_LT p1.isList p2 fun h' hz hI hO h1 h2 hk => wpAny_pyIter_zip hz ?_
      have I2 : Inv X pins σ H1 { s1 with heap := h' } := I1.kept (t' := s1.toks) hk
      refine ⟨s1.heap.objs.size + 4, [s1.heap.objs.size + 4, s1.heap.objs.size + 2, s1.heap.objs.size + 3, s1.heap.objs.size, s1.heap.objs.size + 1], _, _, H1, rfl, I2, turn_LT (PySem.W.ktu_apart s1.heap.objs.size a b p1.lt (Heap.lt_size ho2)), ⟨hz, hI, ⟨_, _, hO⟩, h1, h2⟩, fun c hcm => ?_, q⟩
      have le : s1.heap.objs.size ≤ c := by
        simp only [List.mem_cons, List.not_mem_nil, or_false] at hcm
        rcases hcm with rfl | rfl | rfl | rfl | rfl <;> omega
      exact I1.fpOk le (I1.hok.fresh le)
end PLz
namespace PL
open PySem PySem.Spec L2
set_option autoImplicit false
/-- zip of two lists, or of a list and a tuple -/
def zipE (f g : Ex) : Rho → Store → Option (D × D × Store) := fun ρ m => (f ρ m).bind fun p => (g ρ p.2).bind fun q => (frzE q.2 p.1).bind fun a => (frzE a.2 q.1).bind fun b => some (a.1, b.1, b.2)
def zipD : D → D → Option (List D)
  | .lst xs, .lst ys => some ((xs.zip ys).map fun p => D.tup [p.1, p.2])
  | .lst xs, .tup ys => some ((xs.zip ys).map fun p => D.tup [p.1, p.2])
  | _, _ => none
def iZipD (f g : Ex) : Ix := fun ρ m => (zipE f g ρ m).bind fun p => (zipD p.1 p.2.1).bind fun xs => some (xs, p.2.2)
section
variable {K : PySem.W.Frag} {F : Hp} {a b : Addr} {vs ws : List V} {ds es : List D}
theorem zip_get {α β : Type} {xs : List α} {ys : List β} {i : Nat} {p : α × β} (h : (xs.zip ys)[i]? = some p) : xs[i]? = some p.1 ∧ ys[i]? = some p.2 := by
  rw [List.getElem?_zip_eq_some] at h
  exact h
theorem walks_zipLL (ha : F a = some (.lst vs)) (hb : F b = some (.lst ws)) (za : vs.length ≤ sizeLine) (ra : Reps K F vs ds) (rb : Reps K F ws es) : Walks K (Itz K a b) F ((ds.zip es).map fun p => D.tup [p.1, p.2]) := by
  have l1 := ra.length
  have l2 := rb.length
  refine ⟨by rw [List.length_map, List.length_zip]; omega, fun F2 as2 m2 H2 x hp i => ?_⟩
  have h1 : SqL K H2 a vs := .of (hp.sub.lst (x.ex rfl ha))
  have h2 : SqL K H2 b ws := .of (hp.sub.lst (x.ex rfl hb))
  refine ⟨fun hi => ⟨vs, ws, h1, h2, by rw [List.length_map, List.length_zip] at hi; omega⟩, fun d hd => ?_⟩
  rw [List.getElem?_map] at hd
  obtain ⟨p, hp1, rfl⟩ := Option.map_eq_some_iff.mp hd
  obtain ⟨g1, g2⟩ := zip_get hp1
  obtain ⟨v, e1, r1⟩ := ra.get g1
  obtain ⟨w, e2, r2⟩ := rb.get g2
  refine ⟨⟨vs, ws, v, w, h1, h2, e1, e2⟩, fun u H' ⟨T, v', w', q1, q2, q3, q4, q5⟩ => ?_⟩
  have q4 := q4 vs h1
  have q5 := q5 ws h2
  rw [e1] at q4
  rw [e2] at q5
  cases q4
  cases q5
  subst q1 q3
  have g := Grow.laid (o := .tup [v, w]) hp.sub q2
  exact ⟨_, g, .tup upd_same (by show 2 ≤ sizeLine; rw [sizeLine_eq]; decide) (.cons ((r1.mono x).mono (g.same hp.sub)) (.cons ((r2.mono x).mono (g.same hp.sub)) .nil))⟩
theorem walks_zipLT (ha : F a = some (.lst vs)) (hb : F b = some (.tup ws)) (za : vs.length ≤ sizeLine) (ra : Reps K F vs ds) (rb : Reps K F ws es) : Walks K (PLz.ItLT K a b) F ((ds.zip es).map fun p => D.tup [p.1, p.2]) := by
  have l1 := ra.length
  have l2 := rb.length
  refine ⟨by rw [List.length_map, List.length_zip]; omega, fun F2 as2 m2 H2 x hp i => ?_⟩
  have h1 : SqL K H2 a vs := .of (hp.sub.lst (x.ex rfl ha))
  have h2 : SqT K H2 b ws := .of (hp.sub.tup (x.ex rfl hb))
  refine ⟨fun hi => ⟨vs, ws, h1, h2, by rw [List.length_map, List.length_zip] at hi; omega⟩, fun d hd => ?_⟩
  rw [List.getElem?_map] at hd
  obtain ⟨p, hp1, rfl⟩ := Option.map_eq_some_iff.mp hd
  obtain ⟨g1, g2⟩ := zip_get hp1
  obtain ⟨v, e1, r1⟩ := ra.get g1
  obtain ⟨w, e2, r2⟩ := rb.get g2
  refine ⟨⟨vs, ws, v, w, h1, h2, e1, e2⟩, fun u H' ⟨T, v', w', q1, q2, q3, q4, q5⟩ => ?_⟩
  have q4 := q4 vs h1
  have q5 := q5 ws h2
  rw [e1] at q4
  rw [e2] at q5
  cases q4
  cases q5
  subst q1 q3
  have g := Grow.laid (o := .tup [v, w]) hp.sub q2
  exact ⟨_, g, .tup upd_same (by show 2 ≤ sizeLine; rw [sizeLine_eq]; decide) (.cons ((r1.mono x).mono (g.same hp.sub)) (.cons ((r2.mono x).mono (g.same hp.sub)) .nil))⟩
end
section
variable {X : Cx} {tg a b : Expr} {fa fb : Ex} {p pos tpos : Pos} {elts : List Expr} {kk : Nat}
theorem r_zip (hg : Gl X "zip") (hm : X.mg "zip" = none) (ha : PE X a (tE X.K fa)) (hb : PE X b (tE X.K fb)) (hs : starEach [a, b] X.env = (false, eval a X.env) :: starEach [b] X.env := by rfl) (hs1 : starEach [b] X.env = (false, eval b X.env) :: starEach [] X.env := by rfl) (hpl : (backTo pos (starEach [b] X.env)).any (·.1) = false := by rfl) :
    PI X (.Tuple elts kk tpos) (.Call (.Name "zip" p) [a, b] [] pos) (tI X.K (iZipD fa fb)) := by
  have hA := pa_cons ha (pa_cons hb pa_nil hs1) hs
  refine PI_imp (PI_or (pi_zip hg hm hA hs hpl) (PLz.pi_zipLT hg hm hA hs hpl)) fun σ H R h => ?_
  obtain ⟨ρ, m, F, as, xs, m', env, hp, hf, q⟩ := h
  obtain ⟨⟨da, db, m4⟩, h0, hf⟩ := bind2 hf
  obtain ⟨⟨e1, m1⟩, h1, h0⟩ := bind2 h0
  obtain ⟨⟨e2, m2⟩, h2, h0⟩ := bind2 h0
  obtain ⟨⟨d1, m3⟩, h3, h0⟩ := bind2 h0
  obtain ⟨⟨d2, m5⟩, h4, h0⟩ := bind2 h0
  cases h0
  obtain ⟨zs, h5, hf⟩ := bind2 hf
  cases hf
  have go : ∀ (v1 : V) (H1 F1 : Hp) (as1 : Cs) (x1 : Ext F F1 as as1) (hp1 : HeapOk X.K H1 F1 as1 m1) (r1 : RepE X.K F1 as1 v1 e1) (v2 : V) (H2 F2 : Hp) (as2 : Cs) (x2 : Ext F1 F2 as1 as2) (hp2 : HeapOk X.K H2 F2 as2 m2) (r2 : RepE X.K F2 as2 v2 e2), ∃ F4, Ext F F4 as as2 ∧ HeapOk X.K H2 F4 as2 m5 ∧ Rep X.K F4 v1 d1 ∧ Rep X.K F4 v2 d2 := by
    intro v1 H1 F1 as1 x1 hp1 r1 v2 H2 F2 as2 x2 hp2 r2
    obtain ⟨F3, x3, hp3, r3⟩ := frzE_ok hp2 (r1.ext x2) h3
    obtain ⟨F4, x4, hp4, r4⟩ := frzE_ok hp3 (r2.ext x3) h4
    exact ⟨F4, x1.trans (x2.trans (x3.trans x4)), hp4, r3.mono x4.1, r4⟩
  cases d1 with
  | lst xs1 =>
    cases d2 with
    | lst ys1 =>
      cases h5
      refine .inl (estep env hp h1 fun v1 H1 F1 as1 x1 hp1 env1 r1 => estep env1 hp1 h2 fun v2 H2 F2 as2 x2 hp2 env2 r2 => ?_)
      obtain ⟨F4, x4, hp4, s1, s2⟩ := go v1 H1 F1 as1 x1 hp1 r1 v2 H2 F2 as2 x2 hp2 r2
      cases s1 with
      | lst u1 u2 u3 => cases s2 with
        | lst w1 w2 w3 => exact ⟨_, _, _, _, rfl, .of (hp4.sub.lst u1), .of (hp4.sub.lst w1), q _ H2 F4 as2 x4 hp4 (walks_zipLL u1 w1 u2 u3 w3)⟩
    | tup ys1 =>
      cases h5
      refine .inr (estep env hp h1 fun v1 H1 F1 as1 x1 hp1 env1 r1 => estep env1 hp1 h2 fun v2 H2 F2 as2 x2 hp2 env2 r2 => ?_)
      obtain ⟨F4, x4, hp4, s1, s2⟩ := go v1 H1 F1 as1 x1 hp1 r1 v2 H2 F2 as2 x2 hp2 r2
      cases s1 with
      | lst u1 u2 u3 => cases s2 with
        | tup w1 w2 w3 => exact ⟨_, _, _, _, rfl, .of (hp4.sub.lst u1), .of (hp4.sub.tup w1), q _ H2 F4 as2 x4 hp4 (walks_zipLT u1 w1 u2 u3 w3)⟩
    | _ => cases h5
  | _ => cases h5
end
end PL
/-! PL16: d.get(k, x). -/
namespace PL
open PySem PySem.Spec L2
set_option autoImplicit false
def isDicD : D → Bool
  | .dic _ => true
  | .dicT _ => true
  | _ => false
def eGet2 (fo fi fd : Ex) : Ex := fun ρ m => (fo ρ m).bind fun p => (look p.2 p.1).bind fun d0 => if isDicD d0 = true then (fi ρ p.2).bind fun q => (fd ρ q.2).bind fun r => match r.1 with
  | .d x => (look r.2 p.1).bind fun d => (look r.2 q.1).bind fun i => (dget d i).bind fun o => some (.d (o.getD x), r.2)
  | _ => none
  else none
section
variable {X : Cx} {o i e : Expr} {fo fi fd : Ex} {apos cpos : Pos}
theorem r_get2 (hu : X.A.units + 1 < cLine) (ho : PE X o (tE X.K fo)) (hi : PE X i (tE X.K fi)) (he : PE X e (tE X.K fd)) (hb : attributeBase o "get" X.env (eval o X.env) = eval o X.env := by rfl)
    (hf : ((backTo cpos (starEach [i, e] X.env)).all (fun x => !x.1) && (backToKw cpos (keywordEach [] X.env)).all (fun x => x.1.isSome) && decide (([i, e] : List Expr).length + ([] : List Keyword).length + (if ([] : List Keyword).isEmpty then 0 else 1) < 30)) = true := by rfl)
    (hl : (apos.endLine == cpos.line) = true := by rfl) (ht : backTo cpos (starEach [i, e] X.env) = [(false, eval i X.env), (false, eval e X.env)] := by rfl) : PE X (.Call (.Attribute o "get" apos) [i, e] [] cpos) (tE X.K (eGet2 fo fi fd)) :=
  PE_imp (pe_dget2 hu ho hi he ⟨hb, hf, hl, ht⟩) fun σ H Q h => by
    obtain ⟨ρ, m, F, as, e0, m', env, hp, hf, q⟩ := h
    obtain ⟨⟨e1, m1⟩, h1, hf⟩ := bind2 hf
    obtain ⟨d0, h2, hf⟩ := bind2 hf
    split at hf
    · rename_i z
      obtain ⟨⟨e2, m2⟩, h3, hf⟩ := bind2 hf
      obtain ⟨⟨e3, m3⟩, h4, hf⟩ := bind2 hf
      cases e3 with
      | d x =>
        obtain ⟨d, h5, hf⟩ := bind2 hf
        obtain ⟨k, h6, hf⟩ := bind2 hf
        obtain ⟨ov, h7, hf⟩ := bind2 hf
        cases hf
        refine estep env hp h1 fun v1 H1 F1 as1 x1 hp1 env1 r1 => ?_
        have isd : ∃ a, v1 = .ref a ∧ IsD H1 a := by
          have L := look_rep hp1 r1 h2
          cases d0 with
          | dic _ => obtain ⟨a, vs, rfl, w, _⟩ := L.dict hp1.sub; exact ⟨a, rfl, .inl ⟨vs, w⟩⟩
          | dicT _ => obtain ⟨a, vs, rfl, w, _⟩ := L.dictT hp1.sub; exact ⟨a, rfl, .inr ⟨vs, w⟩⟩
          | _ => cases z
        obtain ⟨a0, rfl, isd⟩ := isd
        refine ⟨a0, rfl, isd, estep env1 hp1 h3 fun v2 H2 F2 as2 x2 hp2 env2 r2 => estep env2 hp2 h4 fun v3 H3 F3 as3 x3 hp3 env3 r3 => ?_⟩
        obtain ⟨a, ow, ea, g, c⟩ := dget_rep hp3.sub (look_rep hp3 (r1.ext (x2.trans x3)) h5) (look_rep hp3 (r2.ext x3) h6) h7
        cases ea
        refine ⟨ow, g, q _ H3 F3 as3 (x1.trans (x2.trans x3)) hp3 ?_⟩
        rcases c with ⟨c1, c2⟩ | ⟨y, w, c1, c2, c3⟩
        · rw [c1, c2]
          exact r3
        · rw [c1, c2]
          exact .d c3
      | _ => cases hf
    · cases hf
end
end PL
/-! PL17: a name's list or dict that is written no more is data from now on. -/
namespace PL
open PySem PySem.Spec L2
set_option autoImplicit false
def sFrz (i : Nat) : Sx := fun ρ m => match ρ[i]? with
  | some (some e) => (frzE m e).bind fun p => some (.nx, ρ.set i (some (.d p.1)), p.2)
  | _ => none
section
variable {X : Cx} {st : Stmt} {f : Sx}
theorem frz_env {K : PySem.W.Frag} {F : Hp} {as : Cs} {σ : L2.St} {ρ : Rho} {i : Nat} {e : E} {d : D} (env : EnvOk K F as σ ρ) (h : ρ[i]? = some (some e)) (r : ∀ v, RepE K F as v e → Rep K F v d) : EnvOk K F as σ (ρ.set i (some (.d d))) := by
  refine ⟨by rw [List.length_set]; exact env.len, fun j e' q => ?_⟩
  by_cases hj : i = j
  · subst hj
    have hl := (List.getElem?_eq_some_iff.mp h).1
    rw [List.getElem?_set_self hl] at q
    cases q
    obtain ⟨v, h1, h2⟩ := env.get i e h
    exact ⟨v, h1, .d (r v h2)⟩
  · rw [List.getElem?_set_ne hj] at q
    exact env.get j e' q
theorem r_frz (i : Nat) (h : PS X st (tS X.K f)) : PS X st (tS X.K (sSeq f (sFrz i))) := PS_imp h fun D σ H h => by
  obtain ⟨ρ, m, F, as, fl, ρ', m', env, hp, hf, q⟩ := h
  obtain ⟨⟨fl1, ρ1, m1⟩, h1, hf⟩ := bind2 hf
  refine ⟨ρ, m, F, as, fl1, ρ1, m1, env, hp, h1, ?_⟩
  cases fl1 with
  | nx =>
    have hf : sFrz i ρ1 m1 = some (fl, ρ', m') := hf
    intro σ' H' F' as' x env' hp'
    unfold sFrz at hf
    split at hf
    · rename_i e he
      obtain ⟨⟨d, m2⟩, h2, hf⟩ := bind2 hf
      cases hf
      obtain ⟨v, e1, e2⟩ := env'.get i e he
      obtain ⟨F2, x2, hp2, r2⟩ := frzE_ok hp' e2 h2
      refine q σ' H' F2 as' (x.trans x2) (frz_env (env'.ext x2) he fun w rw' => ?_) hp2
      cases rw' with
      | d r =>
        cases h2
        exact r
      | own r =>
        obtain ⟨v2, g1, g2⟩ := (env'.ext x2).get i _ he
        rw [e1] at g1
        cases g1
        cases e2 with
        | own r' =>
          have r3 := pre_get x2.2.1 r'
          rw [r] at r3
          cases r3
          exact r2
      | deal => cases h2
    · cases hf
  | bk => cases hf; exact q
  | ct => cases hf; exact q
  | rt e => cases hf; exact q
end
end PL
/-! TL1: typed programs under the mirrors: frames by slots. -/
namespace TL
open PySem PySem.Spec L2 PL
set_option autoImplicit false

inductive Sl where
  | any | val (d : D) | ro (d : D) | lo (d : D) | own (o : O) | deal (row : List Int) (t : Int)
def ckO (c : Int) : O := .lst [.int c]
def lookO : O → D
  | .lst xs => .lst xs
  | .dic k => .dic k
  | .dicT k => .dicT k
  | .frz x => x
theorem look_own {m : Store} {k : Nat} {o : O} (h : m[k]? = some o) : look m (.own k) = some (lookO o) := by
  unfold look
  simp only [h]
  cases o <;> rfl
def BaseOk (b : Store) (ck : Option Int) (m : Store) : Prop :=
  b.length ≤ m.length ∧ (∀ k, k < b.length → (ck = none ∨ k ≠ 0) → m[k]? = b[k]?) ∧ ∀ c, ck = some c → 0 < b.length ∧ m[0]? = some (ckO c)
def SlOk (b : Store) (ck : Option Int) (m : Store) (cs : Nat → Option Nat) (i : Nat) (e : Option E) : Sl → Prop
  | .any => True
  | .val d => e = some (.d d)
  | .ro d => ∃ x, e = some x ∧ (x = .d d ∨ ∃ k, x = .own k ∧ look m x = some d ∧ (ck = none ∨ k ≠ 0) ∧ ∀ j, cs j ≠ some k)
  | .lo d => ∃ x, e = some x ∧ (x = .d d ∨ ∃ k, x = .own k ∧ look m x = some d ∧ b.length ≤ k ∧ (ck = none ∨ k ≠ 0) ∧ ∀ j, cs j ≠ some k)
  | .own o => ∃ k, cs i = some k ∧ e = some (.own k) ∧ b.length ≤ k ∧ m[k]? = some o
  | .deal row t => e = some (.deal row 0 t)
structure Rel (b : Store) (ck : Option Int) (s : List Sl) (ρ : Rho) (m : Store) : Prop where
  len : ρ.length = s.length
  base : BaseOk b ck m
  ex : ∃ cs : Nat → Option Nat, (∀ i j k, cs i = some k → cs j = some k → i = j) ∧ (∀ i k, cs i = some k → ∃ o, s[i]? = some (.own o)) ∧ ∀ i sl, s[i]? = some sl → SlOk b ck m cs i (ρ[i]?).join sl

section
variable {b : Store} {ck : Option Int} {s s' : List Sl} {ρ : Rho} {m : Store}
theorem look_set_ne {m : Store} {k j : Nat} {o : O} (h : j ≠ k) : look (m.set j o) (.own k) = look m (.own k) := by
  unfold look
  simp only [List.getElem?_set_ne h]
theorem look_app {m : Store} {k : Nat} {o : O} {d : D} (h : look m (.own k) = some d) : look (m ++ [o]) (.own k) = some d := by
  unfold look at h ⊢
  cases q : m[k]? with
  | none => simp only [q] at h; cases h
  | some w =>
    have : (m ++ [o])[k]? = some w := by
      rw [List.getElem?_append_left (List.getElem?_eq_some_iff.mp q).1]; exact q
    simp only [this]
    simp only [q] at h
    exact h
theorem look_lt {m : Store} {k : Nat} {d : D} (h : look m (.own k) = some d) : k < m.length := by
  unfold look at h
  cases q : m[k]? with
  | none => simp only [q] at h; cases h
  | some w => exact (List.getElem?_eq_some_iff.mp q).1
/-- a slot's cell map without one -/
def csDel (cs : Nat → Option Nat) (i : Nat) : Nat → Option Nat := fun j => if j = i then none else cs j
def csPut (cs : Nat → Option Nat) (i k : Nat) : Nat → Option Nat := fun j => if j = i then some k else cs j
theorem csDel_sub {cs : Nat → Option Nat} {i j k : Nat} (h : csDel cs i j = some k) : cs j = some k ∧ j ≠ i := by
  unfold csDel at h
  split at h
  · cases h
  · exact ⟨h, by assumption⟩
theorem join_set_ne {ρ : Rho} {i j : Nat} {x : Option E} (h : i ≠ j) : ((ρ.set i x)[j]?).join = (ρ[j]?).join := by rw [List.getElem?_set_ne h]
/-- a slot is written with data, or with what is not looked at -/
theorem Rel.set0 (r : Rel b ck s ρ m) (i : Nat) (x : Option E) (sl : Sl) (h : ∀ cs : Nat → Option Nat, (∀ j k, cs j = some k → ∃ o, s[j]? = some (.own o)) → i < ρ.length → SlOk b ck m (csDel cs i) i x sl) (hn : ∀ o, sl ≠ .own o) : Rel b ck (s.set i sl) (ρ.set i x) m := by
  obtain ⟨cs, h1, h2, h3⟩ := r.ex
  refine ⟨by rw [List.length_set, List.length_set]; exact r.len, r.base, csDel cs i, fun j j' k q q' => h1 j j' k (csDel_sub q).1 (csDel_sub q').1, fun j k q => ?_, fun j sl' q => ?_⟩
  · obtain ⟨q1, q2⟩ := csDel_sub q
    obtain ⟨o, q3⟩ := h2 j k q1
    exact ⟨o, by rw [List.getElem?_set_ne (Ne.symm q2)]; exact q3⟩
  · by_cases e : i = j
    · subst e
      by_cases hl : i < s.length
      · rw [List.getElem?_set_self hl] at q
        cases q
        rw [List.getElem?_set_self (by rw [r.len]; exact hl)]
        exact h cs h2 (by rw [r.len]; exact hl)
      · rw [List.getElem?_eq_none (by rw [List.length_set]; omega)] at q
        cases q
    · rw [List.getElem?_set_ne e] at q
      rw [join_set_ne e]
      have z := h3 j sl' q
      cases sl' with
      | any => trivial
      | val d => exact z
      | ro d =>
        obtain ⟨y, e1, e2⟩ := z
        refine ⟨y, e1, e2.imp id fun ⟨k, a1, a2, a3, a4⟩ => ⟨k, a1, a2, a3, fun j' w => a4 j' (csDel_sub w).1⟩⟩
      | lo d =>
        obtain ⟨y, e1, e2⟩ := z
        refine ⟨y, e1, e2.imp id fun ⟨k, a1, a2, a5, a3, a4⟩ => ⟨k, a1, a2, a5, a3, fun j' w => a4 j' (csDel_sub w).1⟩⟩
      | own o =>
        obtain ⟨k, e1, e2, e3, e4⟩ := z
        exact ⟨k, by show csDel cs i j = some k; unfold csDel; rw [if_neg (Ne.symm e)]; exact e1, e2, e3, e4⟩
      | deal row t => exact z
theorem Rel.setv (r : Rel b ck s ρ m) (i : Nat) (d : D) : Rel b ck (s.set i (.val d)) (ρ.set i (some (.d d))) m :=
  r.set0 i _ _ (fun _ _ _ => rfl) (fun o h => by cases h)
theorem Rel.seta (r : Rel b ck s ρ m) (i : Nat) (x : Option E) : Rel b ck (s.set i .any) (ρ.set i x) m :=
  r.set0 i _ _ (fun _ _ _ => trivial) (fun o h => by cases h)
theorem Rel.setd (r : Rel b ck s ρ m) (i : Nat) (row : List Int) (t : Int) : Rel b ck (s.set i (.deal row t)) (ρ.set i (some (.deal row 0 t))) m :=
  r.set0 i _ _ (fun _ _ _ => rfl) (fun o h => by cases h)
/-- a new cell in a slot -/
theorem BaseOk.app (h : BaseOk b ck m) (o : O) : BaseOk b ck (m ++ [o]) := by
  obtain ⟨h1, h2, h3⟩ := h
  refine ⟨by rw [List.length_append]; omega, fun k hk hc => ?_, fun c hc => ?_⟩
  · rw [List.getElem?_append_left (by omega)]; exact h2 k hk hc
  · obtain ⟨a, q⟩ := h3 c hc
    exact ⟨a, by rw [List.getElem?_append_left (by omega)]; exact q⟩
theorem Rel.seto (r : Rel b ck s ρ m) (i : Nat) (o : O) : Rel b ck (s.set i (.own o)) (ρ.set i (some (.own m.length))) (m ++ [o]) := by
  obtain ⟨cs, h1, h2, h3⟩ := r.ex
  have lt : ∀ j k, cs j = some k → k < m.length := fun j k q => by
    obtain ⟨o', q2⟩ := h2 j k q
    obtain ⟨k', a1, _, _, a4⟩ := h3 j _ q2
    rw [q] at a1
    cases a1
    exact (List.getElem?_eq_some_iff.mp a4).1
  by_cases hl : i < s.length
  · refine ⟨by rw [List.length_set, List.length_set]; exact r.len, r.base.app o, csPut cs i m.length, fun j j' k q q' => ?_, fun j k q => ?_, fun j sl' q => ?_⟩
    · unfold csPut at q q'
      split at q <;> split at q'
      · omega
      · cases q; have := lt _ _ q'; omega
      · cases q'; have := lt _ _ q; omega
      · exact h1 j j' k q q'
    · unfold csPut at q
      split at q
      · rename_i e; subst e; exact ⟨o, List.getElem?_set_self hl⟩
      · rename_i e
        obtain ⟨o', q3⟩ := h2 j k q
        exact ⟨o', by rw [List.getElem?_set_ne (Ne.symm e)]; exact q3⟩
    · by_cases e : i = j
      · subst e
        rw [List.getElem?_set_self hl] at q
        cases q
        refine ⟨m.length, by unfold csPut; rw [if_pos rfl], ?_, r.base.1, by simp⟩
        rw [List.getElem?_set_self (by rw [r.len]; exact hl)]
        rfl
      · rw [List.getElem?_set_ne e] at q
        rw [join_set_ne e]
        have z := h3 j sl' q
        cases sl' with
        | any => trivial
        | val d => exact z
        | ro d =>
          obtain ⟨y, e1, e2⟩ := z
          refine ⟨y, e1, e2.imp id fun ⟨k, a1, a2, a3, a4⟩ => ⟨k, a1, by subst a1; exact look_app a2, a3, fun j' w => ?_⟩⟩
          unfold csPut at w
          split at w
          · cases w; subst a1; have := look_lt a2; omega
          · exact a4 j' w
        | lo d =>
          obtain ⟨y, e1, e2⟩ := z
          refine ⟨y, e1, e2.imp id fun ⟨k, a1, a2, a5, a3, a4⟩ => ⟨k, a1, by subst a1; exact look_app a2, a5, a3, fun j' w => ?_⟩⟩
          unfold csPut at w
          split at w
          · cases w; subst a1; have := look_lt a2; omega
          · exact a4 j' w
        | own o' =>
          obtain ⟨k, e1, e2, e3, e4⟩ := z
          refine ⟨k, by unfold csPut; rw [if_neg (Ne.symm e)]; exact e1, e2, e3, ?_⟩
          rw [List.getElem?_append_left (List.getElem?_eq_some_iff.mp e4).1]
          exact e4
        | deal row t => exact z
  · have e1 : s.set i (.own o) = s := List.set_eq_of_length_le (by omega)
    have e2 : ρ.set i (some (.own m.length)) = ρ := List.set_eq_of_length_le (by rw [r.len]; omega)
    rw [e1, e2]
    refine ⟨r.len, r.base.app o, cs, h1, h2, fun j sl' q => ?_⟩
    have z := h3 j sl' q
    cases sl' with
    | any => trivial
    | val d => exact z
    | ro d =>
      obtain ⟨y, e1, e2⟩ := z
      exact ⟨y, e1, e2.imp id fun ⟨k, a1, a2, a3, a4⟩ => ⟨k, a1, by subst a1; exact look_app a2, a3, a4⟩⟩
    | lo d =>
      obtain ⟨y, e1, e2⟩ := z
      exact ⟨y, e1, e2.imp id fun ⟨k, a1, a2, a5, a3, a4⟩ => ⟨k, a1, by subst a1; exact look_app a2, a5, a3, a4⟩⟩
    | own o' =>
      obtain ⟨k, e1, e2, e3, e4⟩ := z
      exact ⟨k, e1, e2, e3, by rw [List.getElem?_append_left (List.getElem?_eq_some_iff.mp e4).1]; exact e4⟩
    | deal row t => exact z
theorem BaseOk.set (h : BaseOk b ck m) {k : Nat} (hk : b.length ≤ k) (o : O) : BaseOk b ck (m.set k o) := by
  obtain ⟨h1, h2, h3⟩ := h
  refine ⟨by rw [List.length_set]; exact h1, fun j hj hc => ?_, fun c hc => ?_⟩
  · rw [List.getElem?_set_ne (by omega)]; exact h2 j hj hc
  · obtain ⟨a, q⟩ := h3 c hc
    exact ⟨a, by rw [List.getElem?_set_ne (by omega)]; exact q⟩
/-- an own cell: it may be written, or frozen -/
theorem Rel.own (r : Rel b ck s ρ m) {i : Nat} {o : O} (h : s[i]? = some (.own o)) : ∃ k, ρ[i]? = some (some (.own k)) ∧ m[k]? = some o ∧ b.length ≤ k ∧ (ck = none ∨ k ≠ 0) ∧
    (∀ o', Rel b ck (s.set i (.own o')) ρ (m.set k o')) ∧ Rel b ck (s.set i (.lo (lookO o))) ρ (m.set k (.frz (lookO o))) ∧ Rel b ck (s.set i (.lo (lookO o))) ρ m := by
  obtain ⟨cs, h1, h2, h3⟩ := r.ex
  obtain ⟨k, c1, c2, c3, c4⟩ := h3 i _ h
  have hk : ck = none ∨ k ≠ 0 := by
    cases ck with
    | none => exact .inl rfl
    | some c => have := (r.base.2.2 c rfl).1; exact .inr (by omega)
  have hl : i < s.length := (List.getElem?_eq_some_iff.mp h).1
  have hm : k < m.length := (List.getElem?_eq_some_iff.mp c4).1
  have hρ : ρ[i]? = some (some (.own k)) := by
    cases q : ρ[i]? with
    | none => rw [q] at c2; cases c2
    | some w => rw [q] at c2; have c2 : w = _ := c2; rw [c2]
  have other : ∀ (m2 : Store) (cs2 : Nat → Option Nat), (∀ j, j ≠ i → cs2 j = cs j) → (∀ k', cs2 i = some k' → k' = k) → (∀ k', k' ≠ k → m2[k']? = m[k']?) → ∀ j sl', j ≠ i → s[j]? = some sl' → SlOk b ck m2 cs2 j (ρ[j]?).join sl' := by
    intro m2 cs2 g1 g1' g2 j sl' hj q
    have z := h3 j sl' q
    cases sl' with
    | any => trivial
    | val d => exact z
    | ro d =>
      obtain ⟨y, e1, e2⟩ := z
      refine ⟨y, e1, e2.imp id fun ⟨k', a1, a2, a3, a4⟩ => ⟨k', a1, ?_, a3, fun j' w => ?_⟩⟩
      · subst a1
        have : k' ≠ k := fun z => a4 i (by rw [z]; exact c1)
        unfold look at a2 ⊢
        simp only [g2 k' this]
        exact a2
      · by_cases ej : j' = i
        · subst ej
          have := g1' k' w
          exact a4 j' (by rw [this]; exact c1)
        · rw [g1 j' ej] at w; exact a4 j' w
    | lo d =>
      obtain ⟨y, e1, e2⟩ := z
      refine ⟨y, e1, e2.imp id fun ⟨k', a1, a2, a5, a3, a4⟩ => ⟨k', a1, ?_, a5, a3, fun j' w => ?_⟩⟩
      · subst a1
        have : k' ≠ k := fun z => a4 i (by rw [z]; exact c1)
        unfold look at a2 ⊢
        simp only [g2 k' this]
        exact a2
      · by_cases ej : j' = i
        · subst ej
          have := g1' k' w
          exact a4 j' (by rw [this]; exact c1)
        · rw [g1 j' ej] at w; exact a4 j' w
    | own o' =>
      obtain ⟨k', e1, e2, e3, e4⟩ := z
      have : k' ≠ k := fun z => hj (h1 j i k (by rw [← z]; exact e1) c1)
      exact ⟨k', by rw [g1 j hj]; exact e1, e2, e3, by rw [g2 k' this]; exact e4⟩
    | deal row t => exact z
  refine ⟨k, hρ, c4, c3, hk, fun o' => ?_, ?_, ?_⟩
  · refine ⟨by rw [List.length_set]; exact r.len, r.base.set c3 o', cs, h1, fun j k' q => ?_, fun j sl' q => ?_⟩
    · by_cases e : i = j
      · subst e; exact ⟨o', List.getElem?_set_self hl⟩
      · rw [List.getElem?_set_ne e]; exact h2 j k' q
    · by_cases e : i = j
      · subst e
        rw [List.getElem?_set_self hl] at q
        cases q
        exact ⟨k, c1, c2, c3, List.getElem?_set_self hm⟩
      · rw [List.getElem?_set_ne e] at q
        exact other _ cs (fun _ _ => rfl) (fun k' w => by rw [c1] at w; cases w; rfl) (fun k' hk' => List.getElem?_set_ne (Ne.symm hk')) j sl' (Ne.symm e) q
  · refine ⟨by rw [List.length_set]; exact r.len, r.base.set c3 _, csDel cs i, fun j j' k q q' => h1 j j' k (csDel_sub q).1 (csDel_sub q').1, fun j k' q => ?_, fun j sl' q => ?_⟩
    · obtain ⟨q1, q2⟩ := csDel_sub q
      rw [List.getElem?_set_ne (Ne.symm q2)]
      exact h2 j k' q1
    · by_cases e : i = j
      · subst e
        rw [List.getElem?_set_self hl] at q
        cases q
        refine ⟨_, c2, .inr ⟨k, rfl, look_own (o := .frz (lookO o)) (List.getElem?_set_self hm), c3, hk, fun j w => ?_⟩⟩
        obtain ⟨w1, w2⟩ := csDel_sub w
        exact w2 (h1 j i k w1 c1)
      · rw [List.getElem?_set_ne e] at q
        exact other _ (csDel cs i) (fun j hj => by unfold csDel; rw [if_neg hj]) (fun k' w => by unfold csDel at w; rw [if_pos rfl] at w; cases w) (fun k' hk' => List.getElem?_set_ne (Ne.symm hk')) j sl' (Ne.symm e) q
  · refine ⟨by rw [List.length_set]; exact r.len, r.base, csDel cs i, fun j j' k q q' => h1 j j' k (csDel_sub q).1 (csDel_sub q').1, fun j k' q => ?_, fun j sl' q => ?_⟩
    · obtain ⟨q1, q2⟩ := csDel_sub q
      rw [List.getElem?_set_ne (Ne.symm q2)]
      exact h2 j k' q1
    · by_cases e : i = j
      · subst e
        rw [List.getElem?_set_self hl] at q
        cases q
        refine ⟨_, c2, .inr ⟨k, rfl, look_own c4, c3, hk, fun j w => ?_⟩⟩
        obtain ⟨w1, w2⟩ := csDel_sub w
        exact w2 (h1 j i k w1 c1)
      · rw [List.getElem?_set_ne e] at q
        exact other _ (csDel cs i) (fun j hj => by unfold csDel; rw [if_neg hj]) (fun k' w => by unfold csDel at w; rw [if_pos rfl] at w; cases w) (fun k' hk' => rfl) j sl' (Ne.symm e) q
/-- an own slot's cell goes to another slot -/
theorem Rel.move (r : Rel b ck s ρ m) {i j : Nat} {o : O} (h : s[i]? = some (.own o)) (hij : i ≠ j) : ∃ k, ρ[i]? = some (some (.own k)) ∧ Rel b ck ((s.set i .any).set j (.own o)) (ρ.set j (some (.own k))) m := by
  obtain ⟨k, hρ, c4, c3, hk, _⟩ := r.own h
  refine ⟨k, hρ, ?_⟩
  obtain ⟨cs, h1, h2, h3⟩ := r.ex
  obtain ⟨k', c1, c2, _, _⟩ := h3 i _ h
  have : k' = k := by rw [hρ] at c2; cases c2; rfl
  subst this
  by_cases hl : j < s.length
  · refine ⟨by simp only [List.length_set]; exact r.len, r.base, csPut (csDel cs i) j k', fun a a' x q q' => ?_, fun a x q => ?_, fun a sl q => ?_⟩
    · unfold csPut at q q'
      split at q <;> split at q'
      · omega
      · cases q
        obtain ⟨w1, w2⟩ := csDel_sub q'
        exact absurd (h1 a' i k' w1 c1) w2
      · cases q'
        obtain ⟨w1, w2⟩ := csDel_sub q
        exact absurd (h1 a i k' w1 c1) w2
      · exact h1 a a' x (csDel_sub q).1 (csDel_sub q').1
    · unfold csPut at q
      split at q
      · rename_i e; subst e; exact ⟨o, List.getElem?_set_self (by rw [List.length_set]; exact hl)⟩
      · rename_i e
        obtain ⟨q1, q2⟩ := csDel_sub q
        rw [List.getElem?_set_ne (Ne.symm e), List.getElem?_set_ne (Ne.symm q2)]
        exact h2 a x q1
    · by_cases e : j = a
      · subst e
        rw [List.getElem?_set_self (by rw [List.length_set]; exact hl)] at q
        cases q
        refine ⟨k', by unfold csPut; rw [if_pos rfl], ?_, c3, c4⟩
        rw [List.getElem?_set_self (by rw [r.len]; exact hl)]
        rfl
      · rw [List.getElem?_set_ne e] at q
        rw [join_set_ne e]
        by_cases e2 : i = a
        · subst e2
          have hli : i < s.length := (List.getElem?_eq_some_iff.mp h).1
          rw [List.getElem?_set_self hli] at q
          cases q
          trivial
        · rw [List.getElem?_set_ne e2] at q
          have z := h3 a sl q
          cases sl with
          | any => trivial
          | val d => exact z
          | ro d =>
            obtain ⟨y, e1, e3⟩ := z
            refine ⟨y, e1, e3.imp id fun ⟨x, a1, a2, a3, a4⟩ => ⟨x, a1, a2, a3, fun j' w => ?_⟩⟩
            unfold csPut at w
            split at w
            · cases w; exact a4 i c1
            · exact a4 j' (csDel_sub w).1
          | lo d =>
            obtain ⟨y, e1, e3⟩ := z
            refine ⟨y, e1, e3.imp id fun ⟨x, a1, a2, a5, a3, a4⟩ => ⟨x, a1, a2, a5, a3, fun j' w => ?_⟩⟩
            unfold csPut at w
            split at w
            · cases w; exact a4 i c1
            · exact a4 j' (csDel_sub w).1
          | own o' =>
            obtain ⟨x, e1, e3, e4, e5⟩ := z
            exact ⟨x, by unfold csPut; rw [if_neg (Ne.symm e)]; unfold csDel; rw [if_neg (Ne.symm e2)]; exact e1, e3, e4, e5⟩
          | deal row t => exact z
  · have e1 : (s.set i .any).set j (.own o) = s.set i .any := List.set_eq_of_length_le (by rw [List.length_set]; omega)
    have e2 : ρ.set j (some (.own k')) = ρ := List.set_eq_of_length_le (by rw [r.len]; omega)
    rw [e1, e2]
    have := r.seta i (some (.own k'))
    have e3 : ρ.set i (some (.own k')) = ρ := by
      refine List.ext_getElem? fun x => ?_
      by_cases e : i = x
      · subst e; rw [hρ, List.getElem?_set_self (List.getElem?_eq_some_iff.mp hρ).1]
      · rw [List.getElem?_set_ne e]
    rw [e3] at this
    exact this
/-- slots may be forgotten -/
inductive Wk1 : Sl → Sl → Prop
  | same {a : Sl} : Wk1 a a
  | any {a : Sl} : Wk1 a .any
  | vro {d : D} : Wk1 (.val d) (.ro d)
  | vlo {d : D} : Wk1 (.val d) (.lo d)
  | olo {o : O} : Wk1 (.own o) (.lo (lookO o))
inductive Wk : List Sl → List Sl → Prop
  | nil : Wk [] []
  | cons {a c : Sl} {s t : List Sl} : Wk1 a c → Wk s t → Wk (a :: s) (c :: t)
theorem Wk.get : ∀ {s t : List Sl}, Wk s t → ∀ (i : Nat) (c : Sl), t[i]? = some c → ∃ a, s[i]? = some a ∧ Wk1 a c
  | _, _, .nil, i, c, h => by simp at h
  | _, _, .cons a b, 0, c, h => by simp at h; subst h; exact ⟨_, rfl, a⟩
  | _, _, .cons a b, i + 1, c, h => by
    obtain ⟨x, h1, h2⟩ := b.get i c (by simpa using h)
    exact ⟨x, by simpa using h1, h2⟩
theorem Wk.length : ∀ {s t : List Sl}, Wk s t → s.length = t.length
  | _, _, .nil => rfl
  | _, _, .cons _ b => congrArg (· + 1) b.length
theorem Rel.wk (r : Rel b ck s ρ m) (w : Wk s s') : Rel b ck s' ρ m := by
  obtain ⟨cs, h1, h2, h3⟩ := r.ex
  refine ⟨by rw [r.len, w.length], r.base, fun j => match s'[j]? with | some (.own _) => cs j | _ => none, fun j j' k q q' => ?_, fun j k q => ?_, fun j sl q => ?_⟩
  · simp only at q q'
    split at q
    · split at q'
      · exact h1 j j' k q q'
      · cases q'
    · cases q
  · simp only at q
    split at q
    · rename_i o e; exact ⟨o, e⟩
    · cases q
  · obtain ⟨a, q1, q2⟩ := w.get j sl q
    have z := h3 j a q1
    have sub : ∀ j' k, (match s'[j']? with | some (.own _) => cs j' | _ => none) = some k → cs j' = some k := fun j' k w => by
      split at w
      · exact w
      · cases w
    cases q2 with
    | any => trivial
    | same =>
      cases sl with
      | any => trivial
      | val d => exact z
      | ro d =>
        obtain ⟨y, e1, e2⟩ := z
        exact ⟨y, e1, e2.imp id fun ⟨k', a1, a2, a3, a4⟩ => ⟨k', a1, a2, a3, fun j' w => a4 j' (sub j' k' w)⟩⟩
      | lo d =>
        obtain ⟨y, e1, e2⟩ := z
        exact ⟨y, e1, e2.imp id fun ⟨k', a1, a2, a5, a3, a4⟩ => ⟨k', a1, a2, a5, a3, fun j' w => a4 j' (sub j' k' w)⟩⟩
      | own o' =>
        obtain ⟨k', e1, e2, e3, e4⟩ := z
        exact ⟨k', by simp only [q]; exact e1, e2, e3, e4⟩
      | deal row t => exact z
    | vro => exact ⟨_, z, .inl rfl⟩
    | vlo => exact ⟨_, z, .inl rfl⟩
    | olo =>
      rename_i o
      obtain ⟨k', e1, e2, e3, e4⟩ := z
      refine ⟨_, e2, .inr ⟨k', rfl, look_own e4, e3, ?_, fun j' w => ?_⟩⟩
      · cases ck with
        | none => exact .inl rfl
        | some c => have := (r.base.2.2 c rfl).1; exact .inr (by omega)
      · have w2 := sub j' k' w
        have := h1 j' j k' w2 e1
        subst this
        simp only [q] at w
        cases w
theorem BaseOk.ckset {c : Int} (h : BaseOk b (some c) m) (c' : Int) : BaseOk b (some c') (m.set 0 (ckO c')) := by
  obtain ⟨h1, h2, h3⟩ := h
  obtain ⟨a, q⟩ := h3 c rfl
  refine ⟨by rw [List.length_set]; exact h1, fun j hj hc => ?_, fun c2 hc => ?_⟩
  · rcases hc with hc | hc
    · cases hc
    · rw [List.getElem?_set_ne (Ne.symm hc)]; exact h2 j hj (.inr hc)
  · cases hc
    exact ⟨a, List.getElem?_set_self (List.getElem?_eq_some_iff.mp q).1⟩
theorem Rel.ckset {c : Int} (r : Rel b (some c) s ρ m) (c' : Int) : Rel b (some c') s ρ (m.set 0 (ckO c')) := by
  obtain ⟨cs, h1, h2, h3⟩ := r.ex
  have hb := (r.base.2.2 c rfl).1
  refine ⟨r.len, r.base.ckset c', cs, h1, h2, fun j sl q => ?_⟩
  have z := h3 j sl q
  cases sl with
  | any => trivial
  | val d => exact z
  | ro d =>
    obtain ⟨y, e1, e2⟩ := z
    refine ⟨y, e1, e2.imp id fun ⟨k', a1, a2, a3, a4⟩ => ?_⟩
    rcases a3 with a3 | a3
    · cases a3
    · exact ⟨k', a1, by subst a1; rw [look_set_ne (Ne.symm a3)]; exact a2, .inr a3, a4⟩
  | lo d =>
    obtain ⟨y, e1, e2⟩ := z
    refine ⟨y, e1, e2.imp id fun ⟨k', a1, a2, a5, a3, a4⟩ => ?_⟩
    rcases a3 with a3 | a3
    · cases a3
    · exact ⟨k', a1, by subst a1; rw [look_set_ne (Ne.symm a3)]; exact a2, a5, .inr a3, a4⟩
  | own o' =>
    obtain ⟨k', e1, e2, e3, e4⟩ := z
    exact ⟨k', e1, e2, e3, by rw [List.getElem?_set_ne (by omega)]; exact e4⟩
  | deal row t => exact z
theorem Rel.ck0 {c : Int} (r : Rel b (some c) s ρ m) : m[0]? = some (ckO c) := (r.base.2.2 c rfl).2
theorem set_ck_self {m : Store} {c : Int} (h : m[0]? = some (ckO c)) : m.set 0 (ckO c) = m := by
  refine List.ext_getElem? fun x => ?_
  by_cases e : 0 = x
  · subst e; rw [h, List.getElem?_set_self (List.getElem?_eq_some_iff.mp h).1]
  · rw [List.getElem?_set_ne e]
/-- a local one that is read only: it may be frozen (again) -/
theorem Rel.lo (r : Rel b ck s ρ m) {i : Nat} {d : D} (h : s[i]? = some (.lo d)) : ∃ x m', (ρ[i]?).join = some x ∧ look m x = some d ∧ (x = .d d ∧ m' = m ∨ ∃ k, x = .own k ∧ m' = m.set k (.frz d)) ∧ Rel b ck s ρ m' := by
  obtain ⟨cs, h1, h2, h3⟩ := r.ex
  obtain ⟨x, e1, e2⟩ := h3 i _ h
  rcases e2 with rfl | ⟨k, rfl, e3, e4, e5, e6⟩
  · exact ⟨_, m, e1, rfl, .inl ⟨rfl, rfl⟩, r⟩
  · have hk := look_lt e3
    have keep : ∀ k' d', look m (.own k') = some d' → look (m.set k (.frz d)) (.own k') = some d' := fun k' d' w => by
      by_cases e : k = k'
      · subst e
        rw [e3] at w
        cases w
        exact look_own (o := .frz d) (List.getElem?_set_self hk)
      · rw [look_set_ne e]; exact w
    refine ⟨_, _, e1, e3, .inr ⟨k, rfl, rfl⟩, r.len, r.base.set e4 _, cs, h1, h2, fun j sl q => ?_⟩
    have z := h3 j sl q
    cases sl with
    | any => trivial
    | val d => exact z
    | ro d' =>
      obtain ⟨y, g1, g2⟩ := z
      exact ⟨y, g1, g2.imp id fun ⟨k', a1, a2, a3, a4⟩ => ⟨k', a1, by subst a1; exact keep _ _ a2, a3, a4⟩⟩
    | lo d' =>
      obtain ⟨y, g1, g2⟩ := z
      exact ⟨y, g1, g2.imp id fun ⟨k', a1, a2, a5, a3, a4⟩ => ⟨k', a1, by subst a1; exact keep _ _ a2, a5, a3, a4⟩⟩
    | own o' =>
      obtain ⟨k', g1, g2, g3, g4⟩ := z
      exact ⟨k', g1, g2, g3, by rw [List.getElem?_set_ne (fun e => e6 j (by rw [e]; exact g1))]; exact g4⟩
    | deal row t => exact z
end
end TL
/-! TL2: typed expressions. -/
namespace TL
open PySem PySem.Spec L2 PL
set_option autoImplicit false
noncomputable section

/-! ### data of types -/
def eL {α : Type} (e : α → D) (xs : List α) : D := .lst (xs.map e)
def eT {α : Type} (e : α → D) (xs : List α) : D := .tup (xs.map e)
def e2 {α β : Type} (a : α → D) (b : β → D) (p : α × β) : D := .tup [a p.1, b p.2]
def e3 {α β γ : Type} (a : α → D) (b : β → D) (c : γ → D) (p : α × β × γ) : D := .tup [a p.1, b p.2.1, c p.2.2]
def e4 {α β γ δ : Type} (a : α → D) (b : β → D) (c : γ → D) (d : δ → D) (p : α × β × γ × δ) : D := .tup [a p.1, b p.2.1, c p.2.2.1, d p.2.2.2]
def eO {α : Type} (e : α → D) : Option α → D
  | none => .non
  | some a => e a
def eU (_ : Unit) : D := .non
def kI (i : Int) : Key := .inl i
def kS (x : Str) : Key := .inr x
/-- a dict with scalar keys; one with tuples as keys -/
def eDK {κ α : Type} (k : κ → Key) (e : α → D) (xs : List (κ × α)) : D := .dic (xs.map fun p => (k p.1, e p.2))
def eDT {κ α : Type} (k : κ → List Key) (e : α → D) (xs : List (κ × α)) : D := .dicT (xs.map fun p => (k p.1, e p.2))
def oL {α : Type} (e : α → D) (xs : List α) : O := .lst (xs.map e)
def oDK {κ α : Type} (k : κ → Key) (e : α → D) (xs : List (κ × α)) : O := .dic (xs.map fun p => (k p.1, e p.2))
def oDT {κ α : Type} (k : κ → List Key) (e : α → D) (xs : List (κ × α)) : O := .dicT (xs.map fun p => (k p.1, e p.2))

/-! ### judgements -/
def LookOk (ck : Option Int) (m : Store) (x : E) (d : D) : Prop := x = .d d ∨ ∃ k, x = .own k ∧ look m x = some d ∧ (ck = none ∨ k ≠ 0)
theorem LookOk.look {ck : Option Int} {m : Store} {x : E} {d : D} (h : LookOk ck m x d) : look m x = some d := by
  rcases h with rfl | ⟨k, _, h, _⟩
  · rfl
  · exact h
theorem LookOk.ck {c c' : Int} {m : Store} {x : E} {d : D} (h : LookOk (some c) m x d) : LookOk (some c') (m.set 0 (ckO c')) x d := by
  rcases h with rfl | ⟨k, rfl, h, h2⟩
  · exact .inl rfl
  · rcases h2 with h2 | h2
    · cases h2
    · exact .inr ⟨k, rfl, by rw [look_set_ne (Ne.symm h2)]; exact h, .inr h2⟩
/-- a value; a value or a list in the making; a drawn value; tests -/
def Ev (f : Ex) (s : List Sl) {α : Type} (e : α → D) (t : Option α) : Prop := ∀ b ck ρ m, Rel b ck s ρ m → ∀ a, t = some a → f ρ m = some (.d (e a), m)
def Rv (f : Ex) (s : List Sl) {α : Type} (e : α → D) (t : Option α) : Prop := ∀ b ck ρ m, Rel b ck s ρ m → ∀ a, t = some a → ∃ x, f ρ m = some (x, m) ∧ LookOk ck m x (e a)
def Dv (f : Ex) (s : List Sl) {α : Type} (e : α → D) (c : Int) (t : Option (α × Int)) : Prop := ∀ b ρ m, Rel b (some c) s ρ m → ∀ a c', t = some (a, c') → f ρ m = some (.d (e a), m.set 0 (ckO c'))
def Tv (f : Tx) (s : List Sl) (t : Option Bool) : Prop := ∀ b ck ρ m, Rel b ck s ρ m → ∀ a, t = some a → f ρ m = some (a, m)
def Td (f : Tx) (s : List Sl) (c : Int) (t : Option (Bool × Int)) : Prop := ∀ b ρ m, Rel b (some c) s ρ m → ∀ a c', t = some (a, c') → f ρ m = some (a, m.set 0 (ckO c'))
section
variable {s : List Sl} {α β γ δ : Type} {ea : α → D} {eb : β → D} {ec : γ → D} {ed : δ → D} {f fa fb fc : Ex} {ta : Option α} {tb : Option β}
theorem Ev.rv (h : Ev f s ea ta) : Rv f s ea ta := fun b ck ρ m r a q => ⟨_, h b ck ρ m r a q, .inl rfl⟩
theorem bnd {α β : Type} {x : Option α} {g : α → Option β} {b : β} (h : x.bind g = some b) : ∃ a, x = some a ∧ g a = some b := Option.bind_eq_some_iff.mp h
theorem join_some {ρ : Rho} {i : Nat} {x : E} (h : (ρ[i]?).join = some x) : ρ[i]? = some (some x) := by
  cases q : ρ[i]? with
  | none => rw [q] at h; cases h
  | some w => rw [q] at h; have h : w = _ := h; rw [h]
theorem eV_eq {ρ : Rho} {m : Store} {i : Nat} {x : E} (h : ρ[i]? = some (some x)) : eV i ρ m = some (x, m) := by
  unfold eV; simp only [h]
theorem ev_var (i : Nat) (a : α) (h : s[i]? = some (.val (ea a))) : Ev (eV i) s ea (some a) := fun b ck ρ m r a' q => by
  cases q
  obtain ⟨cs, _, _, h3⟩ := r.ex
  exact eV_eq (join_some (h3 i _ h))
theorem rv_ro (i : Nat) (a : α) (h : s[i]? = some (.ro (ea a))) : Rv (eV i) s ea (some a) := fun b ck ρ m r a' q => by
  cases q
  obtain ⟨cs, _, _, h3⟩ := r.ex
  obtain ⟨x, h4, h5⟩ := h3 i _ h
  refine ⟨x, eV_eq (join_some h4), h5.imp id fun ⟨k, a1, a2, a3, _⟩ => ⟨k, a1, a2, a3⟩⟩
theorem rv_lo (i : Nat) (a : α) (h : s[i]? = some (.lo (ea a))) : Rv (eV i) s ea (some a) := fun b ck ρ m r a' q => by
  cases q
  obtain ⟨cs, _, _, h3⟩ := r.ex
  obtain ⟨x, h4, h5⟩ := h3 i _ h
  refine ⟨x, eV_eq (join_some h4), h5.imp id fun ⟨k, a1, a2, _, a3, _⟩ => ⟨k, a1, a2, a3⟩⟩
theorem rv_own (i : Nat) (a : α) {o : O} (h : s[i]? = some (.own o)) (ho : lookO o = ea a) : Rv (eV i) s ea (some a) := fun b ck ρ m r a' q => by
  cases q
  obtain ⟨k, h1, h2, h3, h4, _⟩ := r.own h
  exact ⟨_, eV_eq h1, .inr ⟨k, rfl, by rw [look_own h2, ho], h4⟩⟩
theorem ev_c {d : D} (a : α) (h : ea a = d) : Ev (eC d) s ea (some a) := fun b ck ρ m r a' q => by
  cases q
  show some _ = _
  rw [h]
/-! two values -/
theorem ev_bin {op : D → D → Option D} (g : α → β → Option γ) (h : ∀ a b c, g a b = some c → op (ea a) (eb b) = some (ec c)) (ha : Rv fa s ea ta) (hb : Rv fb s eb tb) : Ev (eBin (g2 op) fa fb) s ec (ta.bind fun a => tb.bind fun b => g a b) := fun b ck ρ m r c q => by
  obtain ⟨a, h1, q⟩ := bnd q
  obtain ⟨b', h2, q⟩ := bnd q
  obtain ⟨x, e1, l1⟩ := ha b ck ρ m r a h1
  obtain ⟨y, e2, l2⟩ := hb b ck ρ m r b' h2
  show (fa ρ m).bind _ = _
  rw [e1]
  show (fb ρ m).bind _ = _
  rw [e2]
  show (look m x).bind _ = _
  rw [l1.look]
  show (look m y).bind _ = _
  rw [l2.look]
  show (op _ _).bind _ = _
  rw [h _ _ _ q]
  rfl
theorem gIx_eq {ck : Option Int} {m : Store} {x y : E} {d : D} (h : LookOk ck m x d) : gIx x y m = g2 opIx x y m := by
  rcases h with rfl | ⟨k, rfl, _⟩ <;> rfl
theorem ev_ix (g : α → β → Option γ) (h : ∀ a b c, g a b = some c → opIx (ea a) (eb b) = some (ec c)) (ha : Rv fa s ea ta) (hb : Rv fb s eb tb) : Ev (eBin gIx fa fb) s ec (ta.bind fun a => tb.bind fun b => g a b) := fun b ck ρ m r c q => by
  have := ev_bin g h ha hb b ck ρ m r c q
  obtain ⟨a, h1, q⟩ := bnd q
  obtain ⟨x, e1, l1⟩ := ha b ck ρ m r a h1
  obtain ⟨b', h2, q⟩ := bnd q
  obtain ⟨y, e2, l2⟩ := hb b ck ρ m r b' h2
  rw [← this]
  show (fa ρ m).bind _ = (fa ρ m).bind _
  rw [e1]
  show (fb ρ m).bind _ = (fb ρ m).bind _
  rw [e2]
  show gIx x y m = _
  rw [gIx_eq l1]
  rfl
theorem ev_un {op : D → Option D} (g : α → Option β) (h : ∀ a c, g a = some c → op (ea a) = some (eb c)) (ha : Rv fa s ea ta) : Ev (eUn op fa) s eb (ta.bind g) := fun b ck ρ m r c q => by
  obtain ⟨a, h1, q⟩ := bnd q
  obtain ⟨x, e1, l1⟩ := ha b ck ρ m r a h1
  show (fa ρ m).bind _ = _
  rw [e1]
  show (look m x).bind _ = _
  rw [l1.look]
  show (op _).bind _ = _
  rw [h _ _ q]
  rfl
theorem ev_bi {op : D → D → Option D} (g : α → β → Option γ) (h : ∀ a b c, g a b = some c → op (ea a) (eb b) = some (ec c)) (ha : Rv fa s ea ta) (hb : Rv fb s eb tb) : Ev (eBi op fa fb) s ec (ta.bind fun a => tb.bind fun b => g a b) := ev_bin g h ha hb
/-! tests -/
theorem tv_of {t : Option Bool} (h : Ev f s D.bl t) : Tv (tOf f) s t := fun b ck ρ m r a q => by
  unfold tOf
  simp only [h b ck ρ m r a q]
variable {t1 t2 : Tx} {x y : Option Bool}
theorem tv_and (h1 : Tv t1 s x) (h2 : Tv t2 s y) : Tv (tAndM t1 t2) s (x.bind fun a => if a = true then y else some false) := fun b ck ρ m r a q => by
  obtain ⟨a', e1, q⟩ := bnd q
  show (t1 ρ m).bind _ = _
  rw [h1 b ck ρ m r a' e1]
  show (if a' = true then t2 ρ m else some (false, m)) = _
  split
  · rename_i e; rw [if_pos e] at q; exact h2 b ck ρ m r a q
  · rename_i e; rw [if_neg e] at q; cases q; rfl
theorem tv_or (h1 : Tv t1 s x) (h2 : Tv t2 s y) : Tv (tOrM t1 t2) s (x.bind fun a => if a = true then some true else y) := fun b ck ρ m r a q => by
  obtain ⟨a', e1, q⟩ := bnd q
  show (t1 ρ m).bind _ = _
  rw [h1 b ck ρ m r a' e1]
  show (if a' = true then some (true, m) else t2 ρ m) = _
  split
  · rename_i e; rw [if_pos e] at q; cases q; rfl
  · rename_i e; rw [if_neg e] at q; exact h2 b ck ρ m r a q
theorem tv_and' {x y : Bool} (h1 : Tv t1 s (some x)) (h2 : Tv t2 s (some y)) : Tv (tAndM t1 t2) s (some (x && y)) := by
  have := tv_and h1 h2
  cases x <;> exact this
theorem tv_or' {x y : Bool} (h1 : Tv t1 s (some x)) (h2 : Tv t2 s (some y)) : Tv (tOrM t1 t2) s (some (x || y)) := by
  have := tv_or h1 h2
  cases x <;> exact this
theorem tv_not (h1 : Tv t1 s x) : Tv (tNotM t1) s (x.bind fun a => some (!a)) := fun b ck ρ m r a q => by
  obtain ⟨a', e1, q⟩ := bnd q
  show (t1 ρ m).bind _ = _
  rw [h1 b ck ρ m r a' e1]
  cases q; rfl
theorem tv_true : Tv tTrue s (some true) := fun b ck ρ m r a q => by cases q; rfl
theorem ev_and (h1 : Ev fa s D.bl x) (h2 : Ev fb s D.bl y) : Ev (eAnd fa fb) s D.bl (x.bind fun a => if a = true then y else some false) := fun b ck ρ m r a q => by
  obtain ⟨a', e1, q⟩ := bnd q
  show (tOf fa ρ m).bind _ = _
  rw [tv_of h1 b ck ρ m r a' e1]
  show (if a' = true then fb ρ m else some (.d (.bl false), m)) = _
  split
  · rename_i e; rw [if_pos e] at q; exact h2 b ck ρ m r a q
  · rename_i e; rw [if_neg e] at q; cases q; rfl
theorem ev_or (h1 : Ev fa s D.bl x) (h2 : Ev fb s D.bl y) : Ev (eOr fa fb) s D.bl (x.bind fun a => if a = true then some true else y) := fun b ck ρ m r a q => by
  obtain ⟨a', e1, q⟩ := bnd q
  show (tOf fa ρ m).bind _ = _
  rw [tv_of h1 b ck ρ m r a' e1]
  show (if a' = true then some (.d (.bl true), m) else fb ρ m) = _
  split
  · rename_i e; rw [if_pos e] at q; cases q; rfl
  · rename_i e; rw [if_neg e] at q; exact h2 b ck ρ m r a q
theorem ev_and' {x y : Bool} (h1 : Ev fa s D.bl (some x)) (h2 : Ev fb s D.bl (some y)) : Ev (eAnd fa fb) s D.bl (some (x && y)) := by
  have := ev_and h1 h2
  cases x <;> exact this
theorem ev_or' {x y : Bool} (h1 : Ev fa s D.bl (some x)) (h2 : Ev fb s D.bl (some y)) : Ev (eOr fa fb) s D.bl (some (x || y)) := by
  have := ev_or h1 h2
  cases x <;> exact this
theorem ev_not (h1 : Ev fa s D.bl x) : Ev (eNot fa) s D.bl (x.bind fun a => some (!a)) := fun b ck ρ m r a q => by
  obtain ⟨a', e1, q⟩ := bnd q
  show (tOf fa ρ m).bind _ = _
  rw [tv_of h1 b ck ρ m r a' e1]
  cases q; rfl
theorem ev_if {ta tb : Option α} (h1 : Tv t1 s x) (h2 : Ev fa s ea ta) (h3 : Ev fb s ea tb) : Ev (eIf t1 fa fb) s ea (x.bind fun a => if a = true then ta else tb) := fun b ck ρ m r a q => by
  obtain ⟨a', e1, q⟩ := bnd q
  show (t1 ρ m).bind _ = _
  rw [h1 b ck ρ m r a' e1]
  show (if a' = true then fa ρ m else fb ρ m) = _
  split
  · rename_i e; rw [if_pos e] at q; exact h2 b ck ρ m r a q
  · rename_i e; rw [if_neg e] at q; exact h3 b ck ρ m r a q
theorem ev_if' {x : Bool} {a b : α} (h1 : Tv t1 s (some x)) (h2 : Ev fa s ea (some a)) (h3 : Ev fb s ea (some b)) : Ev (eIf t1 fa fb) s ea (some (if x = true then a else b)) := by
  have := ev_if h1 h2 h3
  cases x <;> exact this
/-- a < b < c -/
theorem ev_chain {op op' : D → D → Option D} {tc : Option γ} (g : α → β → Option Bool) (g' : β → γ → Option Bool) (h : ∀ a b c, g a b = some c → op (ea a) (eb b) = some (.bl c)) (h' : ∀ a b c, g' a b = some c → op' (eb a) (ec b) = some (.bl c))
    (ha : Rv fa s ea ta) (hb : Rv fb s eb tb) (hc : Rv fc s ec tc) : Ev (eChain (g2 op) (g2 op') fa fb fc) s D.bl (ta.bind fun a => tb.bind fun b => (g a b).bind fun x => if x = true then tc.bind fun c => g' b c else some false) := fun b ck ρ m r z q => by
  obtain ⟨a, h1, q⟩ := bnd q
  obtain ⟨b', h2, q⟩ := bnd q
  obtain ⟨u, h3, q⟩ := bnd q
  obtain ⟨x, e1, l1⟩ := ha b ck ρ m r a h1
  obtain ⟨y, e2, l2⟩ := hb b ck ρ m r b' h2
  unfold eChain
  rw [e1]
  show (fb ρ m).bind _ = _
  rw [e2]
  show (g2 op x y m).bind _ = _
  have e3 : g2 op x y m = some (.d (.bl u), m) := by
    show (look m x).bind _ = _
    rw [l1.look]
    show (look m y).bind _ = _
    rw [l2.look]
    show (op _ _).bind _ = _
    rw [h _ _ _ h3]
    rfl
  rw [e3]
  cases u with
  | false => rw [if_neg (by simp)] at q; cases q; rfl
  | true =>
    rw [if_pos rfl] at q
    obtain ⟨c, h4, q⟩ := bnd q
    obtain ⟨w, e4, l4⟩ := hc b ck ρ m r c h4
    show (fc ρ m).bind _ = _
    rw [e4]
    show (look m y).bind _ = _
    rw [l2.look]
    show (look m w).bind _ = _
    rw [l4.look]
    show (op' _ _).bind _ = _
    rw [h' _ _ _ q]
    rfl
theorem ev_chain' {op op' : D → D → Option D} {a : α} {b : β} {c : γ} (x y : Bool) (h : op (ea a) (eb b) = some (.bl x)) (h' : op' (eb b) (ec c) = some (.bl y))
    (ha : Rv fa s ea (some a)) (hb : Rv fb s eb (some b)) (hc : Rv fc s ec (some c)) : Ev (eChain (g2 op) (g2 op') fa fb fc) s D.bl (some (x && y)) := by
  have := ev_chain (ea := fun _ : Unit => ea a) (eb := fun _ : Unit => eb b) (ec := fun _ : Unit => ec c) (ta := some ()) (tb := some ()) (tc := some ()) (fun _ _ => some x) (fun _ _ => some y) (fun _ _ z e => by cases e; exact h) (fun _ _ z e => by cases e; exact h')
    (fun b' ck ρ m r u q => ha b' ck ρ m r a rfl) (fun b' ck ρ m r u q => hb b' ck ρ m r b rfl) (fun b' ck ρ m r u q => hc b' ck ρ m r c rfl)
  cases x <;> exact this
end

/-! ### rows of values -/
def Av (g : Ax) (s : List Sl) {α : Type} (L : α → List D) (t : Option α) : Prop := ∀ b ck ρ m, Rel b ck s ρ m → ∀ a, t = some a → g ρ m = some ((L a).map E.d, m)
theorem frzAll_d : ∀ (ds : List D) (m : Store), frzAll (ds.map E.d) m = some (ds, m)
  | [], _ => rfl
  | d :: ds, m => by
    show (some (d, m)).bind _ = _
    show (frzAll (ds.map E.d) m).bind _ = _
    rw [frzAll_d ds m]
    rfl
section
variable {s : List Sl} {α β γ : Type} {ea : α → D} {eb : β → D} {f : Ex} {g : Ax} {ta : Option α} {tb : Option β} {L : β → List D}
theorem av_nil : Av aNil s (fun _ : Unit => []) (some ()) := fun b ck ρ m r a q => rfl
theorem av_cons (h1 : Ev f s ea ta) (h2 : Av g s L tb) : Av (aCons f g) s (fun p : α × β => ea p.1 :: L p.2) (ta.bind fun a => tb.bind fun b => some (a, b)) := fun b ck ρ m r p q => by
  obtain ⟨a, e1, q⟩ := bnd q
  obtain ⟨b', e2, q⟩ := bnd q
  cases q
  show (f ρ m).bind _ = _
  rw [h1 b ck ρ m r a e1]
  show (g ρ m).bind _ = _
  rw [h2 b ck ρ m r b' e2]
  rfl
theorem ev_tup {L : α → List D} {e : γ → D} (mk : α → γ) (he : ∀ p, e (mk p) = .tup (L p)) (hl : ∀ p, (L p).length ≤ big) (h : Av g s L ta) : Ev (eTup g) s e (ta.bind fun p => some (mk p)) := fun b ck ρ m r p q => by
  obtain ⟨a, e1, q⟩ := bnd q
  cases q
  show (g ρ m).bind _ = _
  rw [h b ck ρ m r a e1]
  show (frzAll ((L a).map E.d) m).bind _ = _
  rw [frzAll_d]
  show (if (L a).length ≤ big then _ else _) = _
  rw [if_pos (hl a), he]
theorem ev_lst {L : α → List D} {e : γ → D} (mk : α → γ) (he : ∀ p, e (mk p) = .lst (L p)) (hl : ∀ p, (L p).length ≤ big) (h : Av g s L ta) : Ev (eLst g) s e (ta.bind fun p => some (mk p)) := fun b ck ρ m r p q => by
  obtain ⟨a, e1, q⟩ := bnd q
  cases q
  show (g ρ m).bind _ = _
  rw [h b ck ρ m r a e1]
  show (frzAll ((L a).map E.d) m).bind _ = _
  rw [frzAll_d]
  show (if (L a).length ≤ big then _ else _) = _
  rw [if_pos (hl a), he]
end
/-! ### calls -/
inductive AV where
  | x (d : D) | v (d : D) | deal (row : List Int) (t : Int)
def ArgOk (ck : Option Int) (m : Store) : AV → E → Prop
  | .x d, e => e = .d d
  | .v d, e => LookOk ck m e d
  | .deal row t, e => e = .deal row 0 t
def ArgsOk (ck : Option Int) (m : Store) : List AV → List E → Prop
  | [], [] => True
  | a :: as, e :: es => ArgOk ck m a e ∧ ArgsOk ck m as es
  | _, _ => False
def Cv (g : Ax) (s : List Sl) {α : Type} (L : α → List AV) (t : Option α) : Prop := ∀ b ck ρ m, Rel b ck s ρ m → ∀ a, t = some a → ∃ es, g ρ m = some (es, m) ∧ ArgsOk ck m (L a) es
/-- a function that changes nothing; one that draws -/
def Fp (f : Fx) (as : List AV) {α : Type} (e : α → D) (t : Option α) : Prop := ∀ ck m es, ArgsOk ck m as es → ∀ a, t = some a → f es m = some (.d (e a), m)
def Fd (f : Fx) (as : List AV) {α : Type} (e : α → D) (c : Int) (t : Option (α × Int)) : Prop := ∀ m es, m[0]? = some (ckO c) → ArgsOk (some c) m as es → ∀ a c', t = some (a, c') → f es m = some (.d (e a), m.set 0 (ckO c'))
section
variable {s : List Sl} {α β γ : Type} {ea : α → D} {eb : β → D} {f : Ex} {g : Ax} {ta : Option α} {tb : Option β} {L : β → List AV} {fx : Fx}
theorem cv_nil : Cv aNil s (fun _ : Unit => []) (some ()) := fun b ck ρ m r a q => ⟨[], rfl, trivial⟩
theorem cv_x (h1 : Ev f s ea ta) (h2 : Cv g s L tb) : Cv (aCons f g) s (fun p : α × β => .x (ea p.1) :: L p.2) (ta.bind fun a => tb.bind fun b => some (a, b)) := fun b ck ρ m r p q => by
  obtain ⟨a, e1, q⟩ := bnd q
  obtain ⟨b', e2, q⟩ := bnd q
  cases q
  obtain ⟨es, e3, l3⟩ := h2 b ck ρ m r b' e2
  refine ⟨_ :: es, ?_, rfl, l3⟩
  show (f ρ m).bind _ = _
  rw [h1 b ck ρ m r a e1]
  show (g ρ m).bind _ = _
  rw [e3]
  rfl
theorem cv_v (h1 : Rv f s ea ta) (h2 : Cv g s L tb) : Cv (aCons f g) s (fun p : α × β => .v (ea p.1) :: L p.2) (ta.bind fun a => tb.bind fun b => some (a, b)) := fun b ck ρ m r p q => by
  obtain ⟨a, e1, q⟩ := bnd q
  obtain ⟨b', e2, q⟩ := bnd q
  cases q
  obtain ⟨es, e3, l3⟩ := h2 b ck ρ m r b' e2
  obtain ⟨x, e4, l4⟩ := h1 b ck ρ m r a e1
  refine ⟨x :: es, ?_, l4, l3⟩
  show (f ρ m).bind _ = _
  rw [e4]
  show (g ρ m).bind _ = _
  rw [e3]
  rfl
theorem cv_deal (i : Nat) {row : List Int} {t : Int} (h : s[i]? = some (.deal row t)) (h2 : Cv g s L tb) : Cv (aCons (eV i) g) s (fun p : β => .deal row t :: L p) tb := fun b ck ρ m r p q => by
  obtain ⟨es, e3, l3⟩ := h2 b ck ρ m r p q
  obtain ⟨cs, _, _, h3⟩ := r.ex
  refine ⟨_ :: es, ?_, rfl, l3⟩
  show (eV i ρ m).bind _ = _
  rw [eV_eq (join_some (h3 i _ h))]
  show (g ρ m).bind _ = _
  rw [e3]
  rfl
theorem ev_call {t : β → Option α} (F : ∀ p, Fp fx (L p) ea (t p)) (h : Cv g s L tb) : Ev (eCall fx g) s ea (tb.bind t) := fun b ck ρ m r a q => by
  obtain ⟨p, e1, q⟩ := bnd q
  obtain ⟨es, e2, l2⟩ := h b ck ρ m r p e1
  show (g ρ m).bind _ = _
  rw [e2]
  exact F p ck m es l2 a q
theorem dv_call {c : Int} {t : β → Option (α × Int)} (F : ∀ p, Fd fx (L p) ea c (t p)) (h : Cv g s L tb) : Dv (eCall fx g) s ea c (tb.bind t) := fun b ρ m r a c' q => by
  obtain ⟨p, e1, q⟩ := bnd q
  obtain ⟨es, e2, l2⟩ := h b (some c) ρ m r p e1
  show (g ρ m).bind _ = _
  rw [e2]
  exact F p m es r.ck0 l2 a c' q
end
/-! ### what is walked -/
def Iv (it : Ix) (s : List Sl) {α : Type} (e : α → D) (t : Option (List α)) : Prop := ∀ b ck ρ m, Rel b ck s ρ m → ∀ xs, t = some xs → it ρ m = some (xs.map e, m)
def sealB (p : Prop) : Bool := @decide p (Classical.propDecidable p)
theorem sealB_iff {p : Prop} : sealB p = true ↔ p := @decide_eq_true_iff p (Classical.propDecidable p)
@[irreducible] def small (n : Int) : Bool := sealB (-1000000 ≤ n ∧ n ≤ 1000000)
@[irreducible] def fits (n : Nat) : Bool := sealB (n ≤ 1000000)
theorem small_iff {n : Int} : small n = true ↔ -1000000 ≤ n ∧ n ≤ 1000000 := by unfold small; exact sealB_iff
theorem fits_iff {n : Nat} : fits n = true ↔ n ≤ 1000000 := by unfold fits; exact sealB_iff
theorem fits_big {n : Nat} (h : fits n = true) : n ≤ big := fits_iff.mp h
/-- the numbers from a, n of them -/
def rgI (a : Int) (n : Nat) : List Int := (List.range n).map fun (i : Nat) => a + (i : Int)
def rg (n : Int) : Option (List Int) := if small n = true then some (rgI 0 n.toNat) else none
def rg2 (a n : Int) : Option (List Int) := if small a = true ∧ small n = true then some (rgI a (n - a).toNat) else none
theorem rangeE_eq (a : Int) (n : Nat) : rangeE a n = (rgI a n).map D.int := by
  unfold rangeE rgI
  rw [List.map_map]
  rfl
section
variable {s : List Sl} {α β γ : Type} {ea : α → D} {eb : β → D} {f fa fb : Ex} {ta : Option (List α)}
theorem iv_lst (h : Ev f s (eL ea) ta) : Iv (iSeq f) s ea ta := fun b ck ρ m r xs q => by
  show (f ρ m).bind _ = _
  rw [h b ck ρ m r xs q]
  rfl
theorem iv_tup (h : Ev f s (eT ea) ta) : Iv (iSeq f) s ea ta := fun b ck ρ m r xs q => by
  show (f ρ m).bind _ = _
  rw [h b ck ρ m r xs q]
  rfl
/-- a pair of two of one type, walked -/
theorem iv_two {t : Option (α × α)} (h : Ev f s (e2 ea ea) t) : Iv (iSeq f) s ea (t.bind fun p => some [p.1, p.2]) := fun b ck ρ m r xs q => by
  obtain ⟨p, e1, q⟩ := bnd q
  cases q
  show (f ρ m).bind _ = _
  rw [h b ck ρ m r p e1]
  rfl
theorem iv_rg {n : Option Int} (h : Rv f s D.int n) : Iv (iRange1 f) s D.int (n.bind rg) := fun b ck ρ m r xs q => by
  obtain ⟨k, e1, q⟩ := bnd q
  obtain ⟨x, e2, l2⟩ := h b ck ρ m r k e1
  unfold rg at q
  split at q
  · rename_i z
    cases q
    have z := small_iff.mp z
    have hb : (big : Int) = 1000000 := rfl
    show (f ρ m).bind _ = _
    rw [e2]
    show (intOf m x).bind _ = _
    have : intOf m x = some k := by unfold intOf; simp only [l2.look]
    rw [this]
    show (if okP (-(big : Int) ≤ k ∧ k ≤ (big : Int)) = true then some (rangeE 0 k.toNat, m) else none) = _
    rw [if_pos (okP_true ⟨by omega, by omega⟩), rangeE_eq]
  · cases q
theorem iv_rg2 {a n : Option Int} (ha : Rv fa s D.int a) (hb : Rv fb s D.int n) : Iv (iRange2 fa fb) s D.int (a.bind fun a => n.bind fun n => rg2 a n) := fun b ck ρ m r xs q => by
  obtain ⟨k, e1, q⟩ := bnd q
  obtain ⟨l, e3, q⟩ := bnd q
  obtain ⟨x, e2, l2⟩ := ha b ck ρ m r k e1
  obtain ⟨y, e4, l4⟩ := hb b ck ρ m r l e3
  unfold rg2 at q
  split at q
  · rename_i z
    cases q
    have z1 := small_iff.mp z.1
    have z2 := small_iff.mp z.2
    have hb : (big : Int) = 1000000 := rfl
    show (fa ρ m).bind _ = _
    rw [e2]
    show (fb ρ m).bind _ = _
    rw [e4]
    show (intOf m x).bind _ = _
    have : intOf m x = some k := by unfold intOf; simp only [l2.look]
    rw [this]
    show (intOf m y).bind _ = _
    have : intOf m y = some l := by unfold intOf; simp only [l4.look]
    rw [this]
    show (if okP (-(big : Int) ≤ k ∧ k ≤ (big : Int) ∧ -(big : Int) ≤ l ∧ l ≤ (big : Int)) = true then some (rangeE k (l - k).toNat, m) else none) = _
    rw [if_pos (okP_true ⟨by omega, by omega, by omega, by omega⟩), rangeE_eq]
  · cases q
end
/-! ### targets -/
def TgR (tg : Tg) (d : D) (s s1 : List Sl) : Prop := ∀ b ck ρ m, Rel b ck s ρ m → ∃ ρ1, tg (.d d) ρ = some ρ1 ∧ Rel b ck s1 ρ1 m
theorem tg_name {i : Nat} {d : D} {s s1 : List Sl} (h : s.set i (.val d) = s1) : TgR (tgName i) d s s1 := fun b ck ρ m r => ⟨_, rfl, by rw [← h]; exact r.setv i d⟩
def setSl : List Nat → List D → List Sl → List Sl
  | i :: is, d :: ds, s => setSl is ds (s.set i (.val d))
  | _, _, s => s
theorem setAll_rel {b : Store} {ck : Option Int} {m : Store} : ∀ (is : List Nat) (ds : List D) (s : List Sl) (ρ : Rho), is.length = ds.length → Rel b ck s ρ m → ∃ ρ1, setAll is ds ρ = some ρ1 ∧ Rel b ck (setSl is ds s) ρ1 m
  | [], [], s, ρ, _, r => ⟨ρ, rfl, r⟩
  | i :: is, d :: ds, s, ρ, h, r => setAll_rel is ds _ _ (by simpa using h) (r.setv i d)
  | [], _ :: _, _, _, h, _ => by simp at h
  | _ :: _, [], _, _, h, _ => by simp at h
theorem tg_tup {is : List Nat} {d : D} {ds : List D} {s s1 : List Sl} (hd : d = .tup ds) (hl : is.length = ds.length) (h : setSl is ds s = s1) : TgR (tgTup is) d s s1 := fun b ck ρ m r => by
  subst hd h
  exact setAll_rel is ds s ρ hl r
theorem tg_lst {is : List Nat} {d : D} {ds : List D} {s s1 : List Sl} (hd : d = .lst ds) (hl : is.length = ds.length) (h : setSl is ds s = s1) : TgR (tgTup is) d s s1 := fun b ck ρ m r => by
  subst hd h
  exact setAll_rel is ds s ρ hl r
def wipeS (s : List Sl) : List Nat → List Sl
  | [] => s
  | v :: vs => (wipeS s vs).set v .any
theorem Rel.wipe {b : Store} {ck : Option Int} {m : Store} {s : List Sl} {ρ : Rho} (r : Rel b ck s ρ m) : ∀ vs : List Nat, Rel b ck (wipeS s vs) (wipeE ρ vs) m
  | [] => r
  | v :: vs => (r.wipe vs).seta v none
/-! ### comprehensions -/
def lcM {α β : Type} (c : α → Option Bool) (f : α → Option β) : List α → Option (List β)
  | [] => some []
  | x :: xs => (c x).bind fun b => if b = true then (f x).bind fun y => (lcM c f xs).bind fun ys => some (y :: ys) else lcM c f xs
/-- without a test -/
def mpM {α β : Type} (f : α → Option β) : List α → Option (List β)
  | [] => some []
  | x :: xs => (f x).bind fun y => (mpM f xs).bind fun ys => some (y :: ys)
/-- with drawing -/
def lcD {α β : Type} (c : α → Int → Option (Bool × Int)) (f : α → Int → Option (β × Int)) : List α → Int → Option (List β × Int)
  | [], n => some ([], n)
  | x :: xs, n => (c x n).bind fun p => if p.1 = true then (f x p.2).bind fun y => (lcD c f xs y.2).bind fun ys => some (y.1 :: ys.1, ys.2) else lcD c f xs p.2
def mpD {α β : Type} (f : α → Int → Option (β × Int)) : List α → Int → Option (List β × Int)
  | [], n => some ([], n)
  | x :: xs, n => (f x n).bind fun y => (mpD f xs y.2).bind fun ys => some (y.1 :: ys.1, ys.2)
theorem lcM_true {α β : Type} (f : α → Option β) : ∀ xs : List α, lcM (fun _ => some true) f xs = mpM f xs
  | [] => rfl
  | x :: xs => by
    show (f x).bind _ = (f x).bind _
    rw [lcM_true f xs]
theorem lcD_true {α β : Type} (f : α → Int → Option (β × Int)) : ∀ (xs : List α) (n : Int), lcD (fun _ n => some (true, n)) f xs n = mpD f xs n
  | [], _ => rfl
  | x :: xs, n => by
    show (f x n).bind _ = (f x n).bind _
    congr 1
    funext y
    rw [lcD_true f xs]
theorem lcM_some {α β : Type} (c : α → Bool) (f : α → β) : ∀ xs : List α, lcM (fun x => some (c x)) (fun x => some (f x)) xs = some ((xs.filter c).map f)
  | [] => rfl
  | x :: xs => by
    show (if c x = true then (lcM _ _ xs).bind _ else lcM _ _ xs) = _
    rw [lcM_some c f xs, List.filter_cons]
    split <;> rfl
theorem mpM_some {α β : Type} (f : α → β) : ∀ xs : List α, mpM (fun x => some (f x)) xs = some (xs.map f)
  | [] => rfl
  | x :: xs => by
    show (mpM _ xs).bind _ = _
    rw [mpM_some f xs]
    rfl
section
variable {s : List Sl} {α β γ : Type} {ei : α → D} {ef : β → D} {it : Ix} {vs : List Nat} {tg : Tg} {tt : Tx} {te : Ex} {l : Option (List α)} {S1 : α → List Sl}
theorem lcLoop_eq {b : Store} {ck : Option Int} {m : Store} {ρ : Rho} {c : α → Option Bool} {f : α → Option β} (r : Rel b ck (wipeS s vs) ρ m) (ht : ∀ a, TgR tg (ei a) (wipeS s vs) (S1 a)) (hc : ∀ a, Tv tt (S1 a) (c a)) (hf : ∀ a, Ev te (S1 a) ef (f a)) :
    ∀ (xs : List α) (ys : List β), lcM c f xs = some ys → lcLoop tg tt te ρ (xs.map ei) m = some (ys.map ef, m)
  | [], ys, h => by cases h; rfl
  | x :: xs, ys, h => by
    obtain ⟨b', h1, h⟩ := bnd h
    obtain ⟨ρ1, e1, r1⟩ := ht x b ck ρ m r
    show (tg (.d (ei x)) ρ).bind _ = _
    rw [e1]
    show (tt ρ1 m).bind _ = _
    rw [hc x b ck ρ1 m r1 b' h1]
    show (if b' = true then (te ρ1 m).bind _ else lcLoop tg tt te ρ (xs.map ei) m) = _
    split at h
    · rename_i z
      rw [if_pos z]
      obtain ⟨y, h2, h⟩ := bnd h
      obtain ⟨ys', h3, h⟩ := bnd h
      cases h
      rw [hf x b ck ρ1 m r1 y h2]
      show (lcLoop tg tt te ρ (xs.map ei) m).bind _ = _
      rw [lcLoop_eq r ht hc hf xs ys' h3]
      rfl
    · rename_i z
      rw [if_neg z]
      exact lcLoop_eq r ht hc hf xs ys h
theorem ev_lcM {c : α → Option Bool} {f : α → Option β} (hi : Iv it s ei l) (ht : ∀ a, TgR tg (ei a) (wipeS s vs) (S1 a)) (hc : ∀ a, Tv tt (S1 a) (c a)) (hf : ∀ a, Ev te (S1 a) ef (f a)) : Ev (eLc it vs tg tt te) s (eL ef) (l.bind fun xs => lcM c f xs) := fun b ck ρ m r ys q => by
  obtain ⟨xs, h1, q⟩ := bnd q
  show (it ρ m).bind _ = _
  rw [hi b ck ρ m r xs h1]
  show (lcLoop tg tt te (wipeE ρ vs) (xs.map ei) m).bind _ = _
  rw [lcLoop_eq (r.wipe vs) ht hc hf xs ys q]
  rfl
theorem ev_lc {c : α → Bool} {f : α → β} (hi : Iv it s ei l) (ht : ∀ a, TgR tg (ei a) (wipeS s vs) (S1 a)) (hc : ∀ a, Tv tt (S1 a) (some (c a))) (hf : ∀ a, Ev te (S1 a) ef (some (f a))) : Ev (eLc it vs tg tt te) s (eL ef) (l.bind fun xs => some ((xs.filter c).map f)) := by
  have := ev_lcM (c := fun a => some (c a)) (f := fun a => some (f a)) hi ht hc hf
  simp only [lcM_some] at this
  exact this
theorem ev_mpM {f : α → Option β} (hi : Iv it s ei l) (ht : ∀ a, TgR tg (ei a) (wipeS s vs) (S1 a)) (hf : ∀ a, Ev te (S1 a) ef (f a)) : Ev (eLc it vs tg tTrue te) s (eL ef) (l.bind fun xs => mpM f xs) := by
  have := ev_lcM (c := fun a => some true) (f := f) hi ht (fun a => tv_true) hf
  simp only [lcM_true] at this
  exact this
theorem ev_mp {f : α → β} (hi : Iv it s ei l) (ht : ∀ a, TgR tg (ei a) (wipeS s vs) (S1 a)) (hf : ∀ a, Ev te (S1 a) ef (some (f a))) : Ev (eLc it vs tg tTrue te) s (eL ef) (l.bind fun xs => some (xs.map f)) := by
  have := ev_mpM (f := fun a => some (f a)) hi ht hf
  simp only [mpM_some] at this
  exact this
end
end
end TL
/-! TL3: typed expressions that draw. -/
namespace TL
open PySem PySem.Spec L2 PL
set_option autoImplicit false
noncomputable section

def Rd (f : Ex) (s : List Sl) {α : Type} (e : α → D) (c : Int) (t : Option (α × Int)) : Prop := ∀ b ρ m, Rel b (some c) s ρ m → ∀ a c', t = some (a, c') → ∃ x, f ρ m = some (x, m.set 0 (ckO c')) ∧ LookOk (some c') (m.set 0 (ckO c')) x (e a)
def Ad (g : Ax) (s : List Sl) {α : Type} (L : α → List D) (c : Int) (t : Option (α × Int)) : Prop := ∀ b ρ m, Rel b (some c) s ρ m → ∀ a c', t = some (a, c') → g ρ m = some ((L a).map E.d, m.set 0 (ckO c'))
def Cd (g : Ax) (s : List Sl) {α : Type} (L : α → List AV) (c : Int) (t : Option (α × Int)) : Prop := ∀ b ρ m, Rel b (some c) s ρ m → ∀ a c', t = some (a, c') → ∃ es, g ρ m = some (es, m.set 0 (ckO c')) ∧ ArgsOk (some c') (m.set 0 (ckO c')) (L a) es
def Id (it : Ix) (s : List Sl) {α : Type} (e : α → D) (c : Int) (t : Option (List α × Int)) : Prop := ∀ b ρ m, Rel b (some c) s ρ m → ∀ xs c', t = some (xs, c') → it ρ m = some (xs.map e, m.set 0 (ckO c'))
theorem set_set0 (m : Store) (a b : O) : (m.set 0 a).set 0 b = m.set 0 b := List.set_set _
section
variable {s : List Sl} {α β γ δ : Type} {ea : α → D} {eb : β → D} {ec : γ → D} {ed : δ → D} {f fa fb fc : Ex} {c : Int} {ta : Option (α × Int)} {tb : α × Int → Option (β × Int)} {g : Ax}
theorem dv_ev {t : Option α} (h : Ev f s ea t) : Dv f s ea c (t.bind fun a => some (a, c)) := fun b ρ m r a c' q => by
  obtain ⟨a', h1, q⟩ := bnd q
  cases q
  rw [set_ck_self r.ck0]
  exact h b _ ρ m r a h1
theorem rd_rv {t : Option α} (h : Rv f s ea t) : Rd f s ea c (t.bind fun a => some (a, c)) := fun b ρ m r a c' q => by
  obtain ⟨a', h1, q⟩ := bnd q
  cases q
  rw [set_ck_self r.ck0]
  exact h b _ ρ m r a h1
theorem rd_dv (h : Dv f s ea c ta) : Rd f s ea c ta := fun b ρ m r a c' q => ⟨_, h b ρ m r a c' q, .inl rfl⟩
theorem td_tv {t : Tx} {x : Option Bool} (h : Tv t s x) : Td t s c (x.bind fun a => some (a, c)) := fun b ρ m r a c' q => by
  obtain ⟨a', h1, q⟩ := bnd q
  cases q
  rw [set_ck_self r.ck0]
  exact h b _ ρ m r a h1
theorem dv_bin {op : D → D → Option D} (g : α → β → Option γ) (h : ∀ a b c, g a b = some c → op (ea a) (eb b) = some (ec c)) (ha : Rd fa s ea c ta) (hb : ∀ k : α × Int, Rd fb s eb k.2 (tb k)) : Dv (eBin (g2 op) fa fb) s ec c (ta.bind fun p => (tb p).bind fun q => (g p.1 q.1).bind fun z => some (z, q.2)) := fun b ρ m r z cz q => by
  obtain ⟨⟨a, c1⟩, h1, q⟩ := bnd q
  obtain ⟨⟨b', c2⟩, h2, q⟩ := bnd q
  obtain ⟨z', h3, q⟩ := bnd q
  cases q
  obtain ⟨x, e1, l1⟩ := ha b ρ m r a c1 h1
  obtain ⟨y, e2, l2⟩ := hb (a, c1) b ρ _ (r.ckset c1) b' c2 h2
  rw [set_set0] at e2 l2
  have l1' : LookOk (some c2) (m.set 0 (ckO c2)) x (ea a) := by have := l1.ck (c' := c2); rw [set_set0] at this; exact this
  show (fa ρ m).bind _ = _
  rw [e1]
  show (fb ρ _).bind _ = _
  rw [e2]
  show (look _ x).bind _ = _
  rw [l1'.look]
  show (look _ y).bind _ = _
  rw [l2.look]
  show (op _ _).bind _ = _
  rw [h _ _ _ h3]
  rfl
theorem dv_ix (g : α → β → Option γ) (h : ∀ a b c, g a b = some c → opIx (ea a) (eb b) = some (ec c)) (ha : Rd fa s ea c ta) (hb : ∀ k : α × Int, Rd fb s eb k.2 (tb k)) : Dv (eBin gIx fa fb) s ec c (ta.bind fun p => (tb p).bind fun q => (g p.1 q.1).bind fun z => some (z, q.2)) := fun b ρ m r z cz q => by
  have := dv_bin g h ha hb b ρ m r z cz q
  obtain ⟨⟨a, c1⟩, h1, q⟩ := bnd q
  obtain ⟨⟨b', c2⟩, h2, q⟩ := bnd q
  obtain ⟨x, e1, l1⟩ := ha b ρ m r a c1 h1
  obtain ⟨y, e2, l2⟩ := hb (a, c1) b ρ _ (r.ckset c1) b' c2 h2
  rw [← this]
  show (fa ρ m).bind _ = (fa ρ m).bind _
  rw [e1]
  show (fb ρ _).bind _ = (fb ρ _).bind _
  rw [e2]
  show gIx x y _ = _
  rw [gIx_eq (l1.ck (c' := c2))]
  rfl
theorem dv_un {op : D → Option D} (g : α → Option β) (h : ∀ a c, g a = some c → op (ea a) = some (eb c)) (ha : Rd fa s ea c ta) : Dv (eUn op fa) s eb c (ta.bind fun p => (g p.1).bind fun z => some (z, p.2)) := fun b ρ m r z cz q => by
  obtain ⟨⟨a, c1⟩, h1, q⟩ := bnd q
  obtain ⟨z', h3, q⟩ := bnd q
  cases q
  obtain ⟨x, e1, l1⟩ := ha b ρ m r a c1 h1
  show (fa ρ m).bind _ = _
  rw [e1]
  show (look _ x).bind _ = _
  rw [l1.look]
  show (op _).bind _ = _
  rw [h _ _ h3]
  rfl
theorem dv_bi {op : D → D → Option D} (g : α → β → Option γ) (h : ∀ a b c, g a b = some c → op (ea a) (eb b) = some (ec c)) (ha : Rd fa s ea c ta) (hb : ∀ k : α × Int, Rd fb s eb k.2 (tb k)) : Dv (eBi op fa fb) s ec c (ta.bind fun p => (tb p).bind fun q => (g p.1 q.1).bind fun z => some (z, q.2)) := dv_bin g h ha hb
/-! tests -/
variable {t1 t2 : Tx} {x : Option (Bool × Int)} {y : Bool × Int → Option (Bool × Int)}
theorem td_of (h : Dv f s D.bl c x) : Td (tOf f) s c x := fun b ρ m r a c' q => by
  unfold tOf
  simp only [h b ρ m r a c' q]
theorem td_and (h1 : Td t1 s c x) (h2 : ∀ k : Bool × Int, Td t2 s k.2 (y k)) : Td (tAndM t1 t2) s c (x.bind fun a => if a.1 = true then y a else some (false, a.2)) := fun b ρ m r z cz q => by
  obtain ⟨⟨a, c1⟩, e1, q⟩ := bnd q
  show (t1 ρ m).bind _ = _
  rw [h1 b ρ m r a c1 e1]
  show (if a = true then t2 ρ _ else some (false, _)) = _
  split
  · rename_i e; rw [if_pos e] at q; have := h2 (a, c1) b ρ _ (r.ckset c1) z cz q; rw [set_set0] at this; exact this
  · rename_i e; rw [if_neg e] at q; cases q; rfl
theorem td_or (h1 : Td t1 s c x) (h2 : ∀ k : Bool × Int, Td t2 s k.2 (y k)) : Td (tOrM t1 t2) s c (x.bind fun a => if a.1 = true then some (true, a.2) else y a) := fun b ρ m r z cz q => by
  obtain ⟨⟨a, c1⟩, e1, q⟩ := bnd q
  show (t1 ρ m).bind _ = _
  rw [h1 b ρ m r a c1 e1]
  show (if a = true then some (true, _) else t2 ρ _) = _
  split
  · rename_i e; rw [if_pos e] at q; cases q; rfl
  · rename_i e; rw [if_neg e] at q; have := h2 (a, c1) b ρ _ (r.ckset c1) z cz q; rw [set_set0] at this; exact this
theorem td_not (h1 : Td t1 s c x) : Td (tNotM t1) s c (x.bind fun a => some (!a.1, a.2)) := fun b ρ m r z cz q => by
  obtain ⟨⟨a, c1⟩, e1, q⟩ := bnd q
  show (t1 ρ m).bind _ = _
  rw [h1 b ρ m r a c1 e1]
  cases q; rfl
theorem dv_and (h1 : Dv fa s D.bl c x) (h2 : ∀ k : Bool × Int, Dv fb s D.bl k.2 (y k)) : Dv (eAnd fa fb) s D.bl c (x.bind fun a => if a.1 = true then y a else some (false, a.2)) := fun b ρ m r z cz q => by
  obtain ⟨⟨a, c1⟩, e1, q⟩ := bnd q
  show (tOf fa ρ m).bind _ = _
  rw [td_of h1 b ρ m r a c1 e1]
  show (if a = true then fb ρ _ else some (.d (.bl false), _)) = _
  split
  · rename_i e; rw [if_pos e] at q; have := h2 (a, c1) b ρ _ (r.ckset c1) z cz q; rw [set_set0] at this; exact this
  · rename_i e; rw [if_neg e] at q; cases q; rfl
theorem dv_or (h1 : Dv fa s D.bl c x) (h2 : ∀ k : Bool × Int, Dv fb s D.bl k.2 (y k)) : Dv (eOr fa fb) s D.bl c (x.bind fun a => if a.1 = true then some (true, a.2) else y a) := fun b ρ m r z cz q => by
  obtain ⟨⟨a, c1⟩, e1, q⟩ := bnd q
  show (tOf fa ρ m).bind _ = _
  rw [td_of h1 b ρ m r a c1 e1]
  show (if a = true then some (.d (.bl true), _) else fb ρ _) = _
  split
  · rename_i e; rw [if_pos e] at q; cases q; rfl
  · rename_i e; rw [if_neg e] at q; have := h2 (a, c1) b ρ _ (r.ckset c1) z cz q; rw [set_set0] at this; exact this
theorem dv_not (h1 : Dv fa s D.bl c x) : Dv (eNot fa) s D.bl c (x.bind fun a => some (!a.1, a.2)) := fun b ρ m r z cz q => by
  obtain ⟨⟨a, c1⟩, e1, q⟩ := bnd q
  show (tOf fa ρ m).bind _ = _
  rw [td_of h1 b ρ m r a c1 e1]
  cases q; rfl
theorem dv_if {ta tb : Bool × Int → Option (α × Int)} (h1 : Td t1 s c x) (h2 : ∀ k : Bool × Int, Dv fa s ea k.2 (ta k)) (h3 : ∀ k : Bool × Int, Dv fb s ea k.2 (tb k)) : Dv (eIf t1 fa fb) s ea c (x.bind fun a => if a.1 = true then ta a else tb a) := fun b ρ m r z cz q => by
  obtain ⟨⟨a, c1⟩, e1, q⟩ := bnd q
  show (t1 ρ m).bind _ = _
  rw [h1 b ρ m r a c1 e1]
  show (if a = true then fa ρ _ else fb ρ _) = _
  split
  · rename_i e; rw [if_pos e] at q; have := h2 (a, c1) b ρ _ (r.ckset c1) z cz q; rw [set_set0] at this; exact this
  · rename_i e; rw [if_neg e] at q; have := h3 (a, c1) b ρ _ (r.ckset c1) z cz q; rw [set_set0] at this; exact this
end
section
variable {s : List Sl} {α β γ : Type} {ea : α → D} {eb : β → D} {f : Ex} {g : Ax} {c : Int} {ta : Option (α × Int)} {tb : α × Int → Option (β × Int)}
theorem ad_av {L : α → List D} {t : Option α} (h : Av g s L t) : Ad g s L c (t.bind fun a => some (a, c)) := fun b ρ m r a c' q => by
  obtain ⟨a', h1, q⟩ := bnd q
  cases q
  rw [set_ck_self r.ck0]
  exact h b _ ρ m r a h1
theorem ad_cons {L : β → List D} (h1 : Dv f s ea c ta) (h2 : ∀ k : α × Int, Ad g s L k.2 (tb k)) : Ad (aCons f g) s (fun p : α × β => ea p.1 :: L p.2) c (ta.bind fun a => (tb a).bind fun b => some ((a.1, b.1), b.2)) := fun b ρ m r p cz q => by
  obtain ⟨⟨a, c1⟩, e1, q⟩ := bnd q
  obtain ⟨⟨b', c2⟩, e2, q⟩ := bnd q
  cases q
  show (f ρ m).bind _ = _
  rw [h1 b ρ m r a c1 e1]
  show (g ρ _).bind _ = _
  have := h2 (a, c1) b ρ _ (r.ckset c1) b' c2 e2
  rw [set_set0] at this
  rw [this]
  rfl
theorem dv_tup {L : α → List D} {e : γ → D} (mk : α → γ) (he : ∀ p, e (mk p) = .tup (L p)) (hl : ∀ p, (L p).length ≤ big) (h : Ad g s L c ta) : Dv (eTup g) s e c (ta.bind fun p => some (mk p.1, p.2)) := fun b ρ m r p cz q => by
  obtain ⟨⟨a, c1⟩, e1, q⟩ := bnd q
  cases q
  show (g ρ m).bind _ = _
  rw [h b ρ m r a _ e1]
  show (frzAll ((L a).map E.d) _).bind _ = _
  rw [frzAll_d]
  show (if (L a).length ≤ big then _ else _) = _
  rw [if_pos (hl a), he]
theorem dv_lst {L : α → List D} {e : γ → D} (mk : α → γ) (he : ∀ p, e (mk p) = .lst (L p)) (hl : ∀ p, (L p).length ≤ big) (h : Ad g s L c ta) : Dv (eLst g) s e c (ta.bind fun p => some (mk p.1, p.2)) := fun b ρ m r p cz q => by
  obtain ⟨⟨a, c1⟩, e1, q⟩ := bnd q
  cases q
  show (g ρ m).bind _ = _
  rw [h b ρ m r a _ e1]
  show (frzAll ((L a).map E.d) _).bind _ = _
  rw [frzAll_d]
  show (if (L a).length ≤ big then _ else _) = _
  rw [if_pos (hl a), he]
/-! calls -/
variable {fx : Fx} {L : β → List AV}
theorem cd_cv {L : α → List AV} {t : Option α} (h : Cv g s L t) : Cd g s L c (t.bind fun a => some (a, c)) := fun b ρ m r a c' q => by
  obtain ⟨a', h1, q⟩ := bnd q
  cases q
  rw [set_ck_self r.ck0]
  exact h b _ ρ m r a h1
theorem ArgsOk.ckset {c c' : Int} {m : Store} : ∀ {as : List AV} {es : List E}, ArgsOk (some c) m as es → ArgsOk (some c') (m.set 0 (ckO c')) as es
  | [], [], _ => trivial
  | a :: as, e :: es, ⟨h1, h2⟩ => ⟨by
      cases a with
      | x d => exact h1
      | v d => exact LookOk.ck h1
      | deal row t => exact h1, ArgsOk.ckset h2⟩
  | [], _ :: _, h => h.elim
  | _ :: _, [], h => h.elim
theorem cd_x (h1 : Dv f s ea c ta) (h2 : ∀ k : α × Int, Cd g s L k.2 (tb k)) : Cd (aCons f g) s (fun p : α × β => .x (ea p.1) :: L p.2) c (ta.bind fun a => (tb a).bind fun b => some ((a.1, b.1), b.2)) := fun b ρ m r p cz q => by
  obtain ⟨⟨a, c1⟩, e1, q⟩ := bnd q
  obtain ⟨⟨b', c2⟩, e2, q⟩ := bnd q
  cases q
  obtain ⟨es, e3, l3⟩ := h2 (a, c1) b ρ _ (r.ckset c1) b' c2 e2
  rw [set_set0] at e3 l3
  refine ⟨_ :: es, ?_, rfl, l3⟩
  show (f ρ m).bind _ = _
  rw [h1 b ρ m r a c1 e1]
  show (g ρ _).bind _ = _
  rw [e3]
  rfl
theorem cd_v (h1 : Rd f s ea c ta) (h2 : ∀ k : α × Int, Cd g s L k.2 (tb k)) : Cd (aCons f g) s (fun p : α × β => .v (ea p.1) :: L p.2) c (ta.bind fun a => (tb a).bind fun b => some ((a.1, b.1), b.2)) := fun b ρ m r p cz q => by
  obtain ⟨⟨a, c1⟩, e1, q⟩ := bnd q
  obtain ⟨⟨b', c2⟩, e2, q⟩ := bnd q
  cases q
  obtain ⟨es, e3, l3⟩ := h2 (a, c1) b ρ _ (r.ckset c1) b' c2 e2
  rw [set_set0] at e3 l3
  obtain ⟨x, e4, l4⟩ := h1 b ρ m r a c1 e1
  have l4' := l4.ck (c' := c2)
  rw [set_set0] at l4'
  refine ⟨x :: es, ?_, l4', l3⟩
  show (f ρ m).bind _ = _
  rw [e4]
  show (g ρ _).bind _ = _
  rw [e3]
  rfl
theorem cd_deal (i : Nat) {row : List Int} {t : Int} {tb : Option (β × Int)} (h : s[i]? = some (.deal row t)) (h2 : Cd g s L c tb) : Cd (aCons (eV i) g) s (fun p : β => .deal row t :: L p) c tb := fun b ρ m r p cz q => by
  obtain ⟨es, e3, l3⟩ := h2 b ρ m r p cz q
  obtain ⟨cs, _, _, h3⟩ := r.ex
  refine ⟨_ :: es, ?_, rfl, l3⟩
  show (eV i ρ m).bind _ = _
  rw [eV_eq (join_some (h3 i _ h))]
  show (g ρ m).bind _ = _
  rw [e3]
  rfl
theorem dv_callD {t : β × Int → Option (α × Int)} {tb : Option (β × Int)} (F : ∀ p : β × Int, Fd fx (L p.1) ea p.2 (t p)) (h : Cd g s L c tb) : Dv (eCall fx g) s ea c (tb.bind t) := fun b ρ m r a cz q => by
  obtain ⟨⟨p, c1⟩, e1, q⟩ := bnd q
  obtain ⟨es, e2, l2⟩ := h b ρ m r p c1 e1
  show (g ρ m).bind _ = _
  rw [e2]
  have := F (p, c1) _ es (r.ckset c1).ck0 l2 a cz q
  rw [set_set0] at this
  exact this
theorem dv_callP {t : β → Option α} {tb : Option (β × Int)} (F : ∀ p, Fp fx (L p) ea (t p)) (h : Cd g s L c tb) : Dv (eCall fx g) s ea c (tb.bind fun p => (t p.1).bind fun z => some (z, p.2)) := fun b ρ m r a cz q => by
  obtain ⟨⟨p, c1⟩, e1, q⟩ := bnd q
  obtain ⟨z, e3, q⟩ := bnd q
  cases q
  obtain ⟨es, e2, l2⟩ := h b ρ m r p c1 e1
  show (g ρ m).bind _ = _
  rw [e2]
  exact F p _ _ es l2 a e3
end
/-! ### walks -/
section
variable {s : List Sl} {α β γ : Type} {ea : α → D} {eb : β → D} {f fa fb : Ex} {c : Int}
theorem id_iv {it : Ix} {t : Option (List α)} (h : Iv it s ea t) : Id it s ea c (t.bind fun a => some (a, c)) := fun b ρ m r a c' q => by
  obtain ⟨a', h1, q⟩ := bnd q
  cases q
  rw [set_ck_self r.ck0]
  exact h b _ ρ m r a h1
theorem id_lst {t : Option (List α × Int)} (h : Dv f s (eL ea) c t) : Id (iSeq f) s ea c t := fun b ρ m r xs c' q => by
  show (f ρ m).bind _ = _
  rw [h b ρ m r xs c' q]
  rfl
theorem id_tup {t : Option (List α × Int)} (h : Dv f s (eT ea) c t) : Id (iSeq f) s ea c t := fun b ρ m r xs c' q => by
  show (f ρ m).bind _ = _
  rw [h b ρ m r xs c' q]
  rfl
theorem id_rg {n : Option (Int × Int)} (h : Rd f s D.int c n) : Id (iRange1 f) s D.int c (n.bind fun p => (rg p.1).bind fun l => some (l, p.2)) := fun b ρ m r xs c' q => by
  obtain ⟨⟨k, c1⟩, e1, q⟩ := bnd q
  obtain ⟨l, e3, q⟩ := bnd q
  cases q
  obtain ⟨x, e2, l2⟩ := h b ρ m r k c1 e1
  unfold rg at e3
  split at e3
  · rename_i z
    cases e3
    have z := small_iff.mp z
    have hb : (big : Int) = 1000000 := rfl
    show (f ρ m).bind _ = _
    rw [e2]
    show (intOf _ x).bind _ = _
    have : intOf (m.set 0 (ckO c1)) x = some k := by unfold intOf; simp only [l2.look]
    rw [this]
    show (if okP (-(big : Int) ≤ k ∧ k ≤ (big : Int)) = true then some (rangeE 0 k.toNat, _) else none) = _
    rw [if_pos (okP_true ⟨by omega, by omega⟩), rangeE_eq]
  · cases e3
variable {ei : α → D} {ef : β → D} {it : Ix} {vs : List Nat} {tg : Tg} {tt : Tx} {te : Ex} {l : Option (List α × Int)} {S1 : α → List Sl}
theorem lcLoopD_eq {b : Store} {ρ : Rho} {tc : α → Int → Option (Bool × Int)} {f : α → Int → Option (β × Int)} (ht : ∀ a, TgR tg (ei a) (wipeS s vs) (S1 a)) (hc : ∀ a c, Td tt (S1 a) c (tc a c)) (hf : ∀ a c, Dv te (S1 a) ef c (f a c)) :
    ∀ (xs : List α) (m : Store) (c c' : Int) (ys : List β), Rel b (some c) (wipeS s vs) ρ m → lcD tc f xs c = some (ys, c') → lcLoop tg tt te ρ (xs.map ei) m = some (ys.map ef, m.set 0 (ckO c'))
  | [], m, c, c', ys, r, h => by
    cases h
    rw [set_ck_self r.ck0]
    rfl
  | x :: xs, m, c, c', ys, r, h => by
    obtain ⟨⟨b', c1⟩, h1, h⟩ := bnd h
    obtain ⟨ρ1, e1, r1⟩ := ht x b _ ρ m r
    show (tg (.d (ei x)) ρ).bind _ = _
    rw [e1]
    show (tt ρ1 m).bind _ = _
    rw [hc x c b ρ1 m r1 b' c1 h1]
    show (if b' = true then (te ρ1 _).bind _ else lcLoop tg tt te ρ (xs.map ei) _) = _
    split at h
    · rename_i z
      have z : b' = true := z
      rw [if_pos z]
      obtain ⟨⟨y, c2⟩, h2, h⟩ := bnd h
      obtain ⟨⟨ys', c3⟩, h3, h⟩ := bnd h
      cases h
      have h4 := hf x c1 b ρ1 _ (r1.ckset c1) y c2 h2
      rw [set_set0] at h4
      rw [h4]
      show (lcLoop tg tt te ρ (xs.map ei) _).bind _ = _
      rw [lcLoopD_eq ht hc hf xs _ c2 c3 ys' (r.ckset c2) h3, set_set0]
      rfl
    · rename_i z
      have z : ¬ b' = true := z
      rw [if_neg z, lcLoopD_eq ht hc hf xs _ c1 c' ys (r.ckset c1) h, set_set0]
theorem dv_lcD {tc : α → Int → Option (Bool × Int)} {f : α → Int → Option (β × Int)} (hi : Id it s ei c l) (ht : ∀ a, TgR tg (ei a) (wipeS s vs) (S1 a)) (hc : ∀ a c, Td tt (S1 a) c (tc a c)) (hf : ∀ a c, Dv te (S1 a) ef c (f a c)) : Dv (eLc it vs tg tt te) s (eL ef) c (l.bind fun p => lcD tc f p.1 p.2) := fun b ρ m r ys c' q => by
  obtain ⟨⟨xs, c1⟩, h1, q⟩ := bnd q
  show (it ρ m).bind _ = _
  rw [hi b ρ m r xs c1 h1]
  show (lcLoop tg tt te (wipeE ρ vs) (xs.map ei) _).bind _ = _
  rw [lcLoopD_eq ht hc hf xs _ c1 c' ys ((r.ckset c1).wipe vs) q, set_set0]
  rfl
theorem dv_mpD {f : α → Int → Option (β × Int)} (hi : Id it s ei c l) (ht : ∀ a, TgR tg (ei a) (wipeS s vs) (S1 a)) (hf : ∀ a c, Dv te (S1 a) ef c (f a c)) : Dv (eLc it vs tg tTrue te) s (eL ef) c (l.bind fun p => mpD f p.1 p.2) := by
  have := dv_lcD (tc := fun _ c => some (true, c)) hi ht (fun a c => td_tv tv_true) hf
  simp only [lcD_true] at this
  exact this
end
section
variable {s : List Sl} {α : Type} {e : α → D} {f : Ex} {c : Int} {tt : Tx} {it : Ix} {ox : Ox}
theorem evE {t t' : Option α} (h : Ev f s e t) (q : t = t') : Ev f s e t' := q ▸ h
theorem rvE {t t' : Option α} (h : Rv f s e t) (q : t = t') : Rv f s e t' := q ▸ h
theorem dvE {t t' : Option (α × Int)} (h : Dv f s e c t) (q : t = t') : Dv f s e c t' := q ▸ h
theorem tvE {t t' : Option Bool} (h : Tv tt s t) (q : t = t') : Tv tt s t' := q ▸ h
theorem tdE {t t' : Option (Bool × Int)} (h : Td tt s c t) (q : t = t') : Td tt s c t' := q ▸ h
theorem ivE {t t' : Option (List α)} (h : Iv it s e t) (q : t = t') : Iv it s e t' := q ▸ h
theorem idE {t t' : Option (List α × Int)} (h : Id it s e c t) (q : t = t') : Id it s e c t' := q ▸ h
end
end
end TL
/-! TL4: typed statements. -/
namespace TL
open PySem PySem.Spec L2 PL
set_option autoImplicit false
noncomputable section

inductive Out where
  | nx (s : List Sl) (ck : Option Int) | lp (s : List Sl) (ck : Option Int) | bk (s : List Sl) (ck : Option Int) | rt (d : D) (ck : Option Int)
def RetOk (b m : Store) (e : E) (d : D) : Prop := e = .d d ∨ ∃ k, e = .own k ∧ b.length ≤ k ∧ look m e = some d
def OutOk (b : Store) : Out → Fl × Rho × Store → Prop
  | .nx s ck, r => r.1 = .nx ∧ Rel b ck s r.2.1 r.2.2
  | .lp s ck, r => (r.1 = .nx ∨ r.1 = .ct) ∧ Rel b ck s r.2.1 r.2.2
  | .bk s ck, r => r.1 = .bk ∧ Rel b ck s r.2.1 r.2.2
  | .rt d ck, r => ∃ e, r.1 = .rt e ∧ BaseOk b ck r.2.2 ∧ RetOk b r.2.2 e d
def Sk (f : Sx) (s : List Sl) (ck : Option Int) {τ : Type} (out : τ → Out) (t : Option τ) : Prop := ∀ b ρ m, Rel b ck s ρ m → ∀ o, t = some o → ∃ r, f ρ m = some r ∧ OutOk b (out o) r
/-- what a loop's body hands on -/
inductive Fx' (σ ρ : Type) where
  | nx (s : σ) | bk (s : σ) | rt (r : ρ)
/-- loops -/
def lpM {α σ : Type} (f : σ → α → Option σ) : List α → σ → Option σ
  | [], s => some s
  | x :: xs, s => (f s x).bind fun s' => lpM f xs s'
def lpX {α σ ρ : Type} (f : σ → α → Option (Fx' σ ρ)) : List α → σ → Option (Fx' σ ρ)
  | [], s => some (.nx s)
  | x :: xs, s => (f s x).bind fun o => match o with
    | .nx s' => lpX f xs s'
    | .bk s' => some (.nx s')
    | .rt r => some (.rt r)
def whM {σ : Type} (c : σ → Option Bool) (f : σ → Option σ) : Nat → σ → Option σ
  | 0, _ => none
  | n + 1, s => (c s).bind fun b => if b = true then (f s).bind fun s' => whM c f n s' else some s
def whX {σ ρ : Type} (c : σ → Option Bool) (f : σ → Option (Fx' σ ρ)) : Nat → σ → Option (Fx' σ ρ)
  | 0, _ => none
  | n + 1, s => (c s).bind fun b => if b = true then (f s).bind fun o => match o with
    | .nx s' => whX c f n s'
    | .bk s' => some (.nx s')
    | .rt r => some (.rt r) else some (.nx s)
/-- behind a loop with ways out -/
def behind {σ ρ τ : Type} (T : σ → Option τ) (R : ρ → τ) : Fx' σ ρ → Option τ
  | .nx s => T s
  | .bk s => T s
  | .rt r => some (R r)
section
variable {s s' : List Sl} {ck : Option Int} {c : Int} {τ α β σ γ : Type} {out : τ → Out} {e : α → D} {f g A B : Sx} {fe : Ex} {t : Option α} {T : α → Option τ}
theorem sSeq_nil (f : Sx) : sSeq f sNil = f := by
  funext ρ m
  show (f ρ m).bind _ = _
  cases f ρ m with
  | none => rfl
  | some r =>
    obtain ⟨fl, ρ', m'⟩ := r
    cases fl <;> rfl
theorem sSeq_assoc (f g h : Sx) : sSeq (sSeq f g) h = sSeq f (sSeq g h) := by
  funext ρ m
  show ((f ρ m).bind _).bind _ = (f ρ m).bind _
  cases f ρ m with
  | none => rfl
  | some r =>
    obtain ⟨fl, ρ', m'⟩ := r
    cases fl <;> rfl
theorem sk_last {t : Option τ} (h : Sk (sSeq f sNil) s ck out t) : Sk f s ck out t := by rw [sSeq_nil] at h; exact h
theorem sk_assoc {h : Sx} {t : Option τ} (H : Sk (sSeq f (sSeq g h)) s ck out t) : Sk (sSeq (sSeq f g) h) s ck out t := by rw [sSeq_assoc]; exact H
theorem sk_nilSeq {t : Option τ} (H : Sk g s ck out t) : Sk (sSeq sNil g) s ck out t := H
theorem sk_nx (o : τ) (h : out o = .nx s' ck) (w : Wk s s') : Sk sNil s ck out (some o) := fun b ρ m r o' q => by
  cases q
  exact ⟨_, rfl, by rw [h]; exact ⟨rfl, r.wk w⟩⟩
theorem sk_lp (o : τ) (h : out o = .lp s' ck) (w : Wk s s') : Sk sNil s ck out (some o) := fun b ρ m r o' q => by
  cases q
  exact ⟨_, rfl, by rw [h]; exact ⟨.inl rfl, r.wk w⟩⟩
theorem sk_cnt (o : τ) (h : out o = .lp s' ck) (w : Wk s s') : Sk (sSeq sCnt g) s ck out (some o) := fun b ρ m r o' q => by
  cases q
  exact ⟨_, rfl, by rw [h]; exact ⟨.inr rfl, r.wk w⟩⟩
theorem sk_brk (o : τ) (h : out o = .bk s' ck) (w : Wk s s') : Sk (sSeq sBrk g) s ck out (some o) := fun b ρ m r o' q => by
  cases q
  exact ⟨_, rfl, by rw [h]; exact ⟨rfl, r.wk w⟩⟩
theorem sk_none : Sk f s ck out none := fun b ρ m r o q => nomatch q
/-! return -/
theorem sk_ret (R : α → τ) (h : Ev fe s e t) (ho : ∀ a, out (R a) = .rt (e a) ck) : Sk (sSeq (sRet fe) g) s ck out (t.bind fun a => some (R a)) := fun b ρ m r o q => by
  obtain ⟨a, h1, q⟩ := bnd q
  cases q
  refine ⟨(.rt (.d (e a)), ρ, m), ?_, ?_⟩
  · show ((fe ρ m).bind _).bind _ = _
    rw [h b ck ρ m r a h1]
    rfl
  · rw [ho]
    exact ⟨_, rfl, r.base, .inl rfl⟩
theorem sk_ret0 {out : α → Out} (h : Ev fe s e t) (ho : ∀ a, out a = .rt (e a) ck) : Sk (sSeq (sRet fe) g) s ck out t := by
  have := sk_ret (g := g) id h ho
  rw [show (t.bind fun a => some (id a)) = t by cases t <;> rfl] at this
  exact this
theorem sk_retD {t : Option (α × Int)} (R : α → Int → τ) (h : Dv fe s e c t) (ho : ∀ a c', out (R a c') = .rt (e a) (some c')) : Sk (sSeq (sRet fe) g) s (some c) out (t.bind fun a => some (R a.1 a.2)) := fun b ρ m r o q => by
  obtain ⟨⟨a, c1⟩, h1, q⟩ := bnd q
  cases q
  refine ⟨(.rt (.d (e a)), ρ, m.set 0 (ckO c1)), ?_, ?_⟩
  · show ((fe ρ m).bind _).bind _ = _
    rw [h b ρ m r a c1 h1]
    rfl
  · rw [ho]
    exact ⟨_, rfl, (r.ckset c1).base, .inl rfl⟩
theorem sk_retD0 {t : Option (α × Int)} {out : α × Int → Out} (h : Dv fe s e c t) (ho : ∀ a c', out (a, c') = .rt (e a) (some c')) : Sk (sSeq (sRet fe) g) s (some c) out t := by
  have := sk_retD (g := g) (fun a c => (a, c)) h ho
  rw [show (t.bind fun a => some (a.1, a.2)) = t by cases t <;> rfl] at this
  exact this
/-- an own list or dict is given back -/
theorem sk_retO (i : Nat) {o : O} {d : D} (v : τ) (h : s[i]? = some (.own o)) (hd : lookO o = d) (ho : out v = .rt d ck) : Sk (sSeq (sRet (eV i)) g) s ck out (some v) := fun b ρ m r w q => by
  cases q
  obtain ⟨k, h1, h2, h3, _⟩ := r.own h
  refine ⟨(.rt (.own k), ρ, m), ?_, ?_⟩
  · show ((eV i ρ m).bind _).bind _ = _
    rw [eV_eq h1]
    rfl
  · rw [ho]
    exact ⟨_, rfl, r.base, .inr ⟨k, rfl, h3, by rw [look_own h2, hd]⟩⟩
/-- rows in which own ones stand -/
def ArgsF (b m : Store) : List E → List D → Prop
  | [], [] => True
  | e :: es, d :: ds => RetOk b m e d ∧ ArgsF b m es ds
  | _, _ => False
def Fv (g : Ax) (s : List Sl) {α : Type} (L : α → List D) (t : Option α) : Prop := ∀ b ck ρ m, Rel b ck s ρ m → ∀ a, t = some a → ∃ es, g ρ m = some (es, m) ∧ ArgsF b m es (L a)
theorem RetOk.frz {b m : Store} {e : E} {d d' : D} {k : Nat} (hk : look m (.own k) = some d') (h : RetOk b m e d) : RetOk b (m.set k (.frz d')) e d := by
  rcases h with h | ⟨j, h1, h2, h3⟩
  · exact .inl h
  · refine .inr ⟨j, h1, h2, ?_⟩
    subst h1
    by_cases e : k = j
    · subst e
      rw [h3] at hk
      cases hk
      exact look_own (o := .frz d) (List.getElem?_set_self (look_lt h3))
    · rw [look_set_ne e]; exact h3
theorem ArgsF.frz {b m : Store} {d' : D} {k : Nat} (hk : look m (.own k) = some d') : ∀ {es : List E} {ds : List D}, ArgsF b m es ds → ArgsF b (m.set k (.frz d')) es ds
  | [], [], _ => trivial
  | e :: es, d :: ds, ⟨h1, h2⟩ => ⟨h1.frz hk, ArgsF.frz hk h2⟩
  | [], _ :: _, h => h.elim
  | _ :: _, [], h => h.elim
theorem frzAll_f {b : Store} {ck : Option Int} : ∀ {es : List E} {ds : List D} {m : Store}, BaseOk b ck m → ArgsF b m es ds → ∃ m', frzAll es m = some (ds, m') ∧ BaseOk b ck m'
  | [], [], m, hb, _ => ⟨m, rfl, hb⟩
  | e :: es, d :: ds, m, hb, ⟨h1, h2⟩ => by
    rcases h1 with rfl | ⟨k, rfl, h3, h4⟩
    · obtain ⟨m', e1, e2⟩ := frzAll_f hb h2
      refine ⟨m', ?_, e2⟩
      show (frzAll es m).bind _ = _
      rw [e1]
      rfl
    · obtain ⟨m', e1, e2⟩ := frzAll_f (hb.set h3 (.frz d)) (h2.frz h4)
      refine ⟨m', ?_, e2⟩
      show ((look m (.own k)).bind _).bind _ = _
      rw [h4]
      show (frzAll es _).bind _ = _
      rw [e1]
      rfl
  | [], _ :: _, _, _, h => h.elim
  | _ :: _, [], _, _, h => h.elim
theorem fv_nil : Fv aNil s (fun _ : Unit => []) (some ()) := fun b ck ρ m r a q => ⟨[], rfl, trivial⟩
theorem fv_d {g : Ax} {L : β → List D} {tb : Option β} (h1 : Ev fe s e t) (h2 : Fv g s L tb) : Fv (aCons fe g) s (fun p : α × β => e p.1 :: L p.2) (t.bind fun a => tb.bind fun b => some (a, b)) := fun b ck ρ m r p q => by
  obtain ⟨a, e1, q⟩ := bnd q
  obtain ⟨b', e2, q⟩ := bnd q
  cases q
  obtain ⟨es, e3, l3⟩ := h2 b ck ρ m r b' e2
  refine ⟨_ :: es, ?_, .inl rfl, l3⟩
  show (fe ρ m).bind _ = _
  rw [h1 b ck ρ m r a e1]
  show (g ρ m).bind _ = _
  rw [e3]
  rfl
theorem fv_o (i : Nat) {g : Ax} {L : β → List D} {tb : Option β} {o : O} (a : α) (h : s[i]? = some (.own o)) (hd : lookO o = e a) (h2 : Fv g s L tb) : Fv (aCons (eV i) g) s (fun p : α × β => e p.1 :: L p.2) (tb.bind fun b => some (a, b)) := fun b ck ρ m r p q => by
  obtain ⟨b', e2, q⟩ := bnd q
  cases q
  obtain ⟨es, e3, l3⟩ := h2 b ck ρ m r b' e2
  obtain ⟨k, g1, g2, g3, _⟩ := r.own h
  refine ⟨_ :: es, ?_, .inr ⟨k, rfl, g3, by rw [look_own g2, hd]⟩, l3⟩
  show (eV i ρ m).bind _ = _
  rw [eV_eq g1]
  show (g ρ m).bind _ = _
  rw [e3]
  rfl
theorem sk_retF {g' : Ax} {L : α → List D} (R : α → τ) {d : α → D} (h : Fv g' s L t) (hd : ∀ a, d a = .tup (L a)) (hl : ∀ a, (L a).length ≤ big) (ho : ∀ a, out (R a) = .rt (d a) ck) : Sk (sSeq (sRet (eTup g')) g) s ck out (t.bind fun a => some (R a)) := fun b ρ m r o q => by
  obtain ⟨a, h1, q⟩ := bnd q
  cases q
  obtain ⟨es, e1, l1⟩ := h b ck ρ m r a h1
  obtain ⟨m', e2, e3⟩ := frzAll_f r.base l1
  refine ⟨(.rt (.d (.tup (L a))), ρ, m'), ?_, ?_⟩
  · show (((g' ρ m).bind _).bind _).bind _ = _
    rw [e1]
    show (((frzAll es m).bind _).bind _).bind _ = _
    rw [e2]
    show ((if (L a).length ≤ big then some (E.d (.tup (L a)), m') else none).bind _).bind _ = _
    rw [if_pos (hl a)]
    rfl
  · rw [ho, hd]
    exact ⟨_, rfl, e3, .inl rfl⟩
/-! x = v -/
theorem seqSet_eq {i : Nat} {ρ : Rho} {m m' : Store} {x : E} (h : fe ρ m = some (x, m')) : sSeq (sSet i fe) g ρ m = g (ρ.set i (some x)) m' := by
  show ((fe ρ m).bind _).bind _ = _
  rw [h]
  rfl
theorem sk_set (i : Nat) {S1 : α → List Sl} (h : Ev fe s e t) (hs : ∀ a, s.set i (.val (e a)) = S1 a) (hk : ∀ a, Sk g (S1 a) ck out (T a)) : Sk (sSeq (sSet i fe) g) s ck out (t.bind T) := fun b ρ m r o q => by
  obtain ⟨a, h1, q⟩ := bnd q
  rw [seqSet_eq (h b ck ρ m r a h1)]
  exact hk a b _ _ (by rw [← hs]; exact r.setv i _) o q
theorem sk_setD (i : Nat) {S1 : α → List Sl} {t : Option (α × Int)} {T : α × Int → Option τ} (h : Dv fe s e c t) (hs : ∀ a, s.set i (.val (e a)) = S1 a) (hk : ∀ p : α × Int, Sk g (S1 p.1) (some p.2) out (T p)) : Sk (sSeq (sSet i fe) g) s (some c) out (t.bind T) := fun b ρ m r o q => by
  obtain ⟨⟨a, c1⟩, h1, q⟩ := bnd q
  rw [seqSet_eq (h b ρ m r a c1 h1)]
  exact hk (a, c1) b _ _ (by rw [← hs]; exact (r.ckset c1).setv i _) o q
theorem sk_move (i j : Nat) {o : O} {S1 : List Sl} {t : Option τ} (h : s[i]? = some (.own o)) (hij : i ≠ j) (hs : (s.set i .any).set j (.own o) = S1) (hk : Sk g S1 ck out t) : Sk (sSeq (sSet j (eV i)) g) s ck out t := fun b ρ m r w q => by
  obtain ⟨k, h1, h2⟩ := r.move h hij
  rw [seqSet_eq (eV_eq h1)]
  exact hk b _ _ (by rw [← hs]; exact h2) w q
/-- something new that will be written -/
def Nv (f : Ex) (s : List Sl) {α : Type} (o : α → O) (t : Option α) : Prop := ∀ b ck ρ m, Rel b ck s ρ m → ∀ a, t = some a → f ρ m = some (.own m.length, m ++ [o a])
def Nd (f : Ex) (s : List Sl) {α : Type} (o : α → O) (c : Int) (t : Option (α × Int)) : Prop := ∀ b ρ m, Rel b (some c) s ρ m → ∀ a c', t = some (a, c') → f ρ m = some (.own m.length, m.set 0 (ckO c') ++ [o a])
theorem sk_new (i : Nat) {w : α → O} {S1 : α → List Sl} (h : Nv fe s w t) (hs : ∀ a, s.set i (.own (w a)) = S1 a) (hk : ∀ a, Sk g (S1 a) ck out (T a)) : Sk (sSeq (sSet i fe) g) s ck out (t.bind T) := fun b ρ m r o q => by
  obtain ⟨a, h1, q⟩ := bnd q
  rw [seqSet_eq (h b ck ρ m r a h1)]
  exact hk a b _ _ (by rw [← hs]; exact r.seto i _) o q
theorem sk_newD (i : Nat) {w : α → O} {S1 : α → List Sl} {t : Option (α × Int)} {T : α × Int → Option τ} (h : Nd fe s w c t) (hs : ∀ a, s.set i (.own (w a)) = S1 a) (hk : ∀ p : α × Int, Sk g (S1 p.1) (some p.2) out (T p)) : Sk (sSeq (sSet i fe) g) s (some c) out (t.bind T) := fun b ρ m r o q => by
  obtain ⟨⟨a, c1⟩, h1, q⟩ := bnd q
  rw [seqSet_eq (h b ρ m r a c1 h1)]
  have := (r.ckset c1).seto i (w a)
  rw [List.length_set] at this
  exact hk (a, c1) b _ _ (by rw [← hs]; exact this) o q
theorem nv_lst {g' : Ax} {L : α → List D} {w : γ → O} (mk : α → γ) (he : ∀ p, w (mk p) = .lst (L p)) (hl : ∀ p, (L p).length ≤ big) (h : Av g' s L t) : Nv (eLstO g') s w (t.bind fun p => some (mk p)) := fun b ck ρ m r p q => by
  obtain ⟨a, e1, q⟩ := bnd q
  cases q
  show (g' ρ m).bind _ = _
  rw [h b ck ρ m r a e1]
  show (frzAll ((L a).map E.d) m).bind _ = _
  rw [frzAll_d]
  show (if (L a).length ≤ big then _ else _) = _
  rw [if_pos (hl a), he]
theorem nd_lst {g' : Ax} {L : α → List D} {w : γ → O} {t : Option (α × Int)} (mk : α → γ) (he : ∀ p, w (mk p) = .lst (L p)) (hl : ∀ p, (L p).length ≤ big) (h : Ad g' s L c t) : Nd (eLstO g') s w c (t.bind fun p => some (mk p.1, p.2)) := fun b ρ m r p c' q => by
  obtain ⟨⟨a, c1⟩, e1, q⟩ := bnd q
  cases q
  show (g' ρ m).bind _ = _
  rw [h b ρ m r a _ e1]
  show (frzAll ((L a).map E.d) _).bind _ = _
  rw [frzAll_d]
  show (if (L a).length ≤ big then some (E.own (m.set 0 _).length, _) else _) = _
  rw [if_pos (hl a), he, List.length_set]
theorem nv_dic {κ : Type} {k : κ → Key} : Nv eDicO s (oDK k e) (some []) := fun b ck ρ m r p q => by cases q; rfl
theorem nv_dicT {κ : Type} {k : κ → List Key} : Nv eDicTO s (oDT k e) (some []) := fun b ck ρ m r p q => by cases q; rfl
def lstG (xs : List α) : Option (List α) := if fits xs.length = true then some xs else none
theorem nv_listL {t : Option (List α)} (h : Rv fe s (eL e) t) : Nv (eListO fe) s (oL e) (t.bind lstG) := fun b ck ρ m r p q => by
  obtain ⟨a, e1, q⟩ := bnd q
  obtain ⟨x, e2, l2⟩ := h b ck ρ m r a e1
  unfold lstG at q
  split at q
  · rename_i z
    cases q
    show (fe ρ m).bind _ = _
    rw [e2]
    show (look m x).bind _ = _
    rw [l2.look]
    show (if (p.map e).length ≤ big then _ else _) = _
    rw [if_pos (by rw [List.length_map]; exact fits_big z)]
    rfl
  · cases q
theorem nv_listT {t : Option (List α)} (h : Rv fe s (eT e) t) : Nv (eListO fe) s (oL e) (t.bind lstG) := fun b ck ρ m r p q => by
  obtain ⟨a, e1, q⟩ := bnd q
  obtain ⟨x, e2, l2⟩ := h b ck ρ m r a e1
  unfold lstG at q
  split at q
  · rename_i z
    cases q
    show (fe ρ m).bind _ = _
    rw [e2]
    show (look m x).bind _ = _
    rw [l2.look]
    show (if (p.map e).length ≤ big then _ else _) = _
    rw [if_pos (by rw [List.length_map]; exact fits_big z)]
    rfl
  · cases q
/-- [x] * n -/
def repG (n : Int) (x : α) : Option (List α) := if small n = true then some (List.replicate n.toNat x) else none
theorem flat_rep {α : Type} (x : α) : ∀ n : Nat, (List.replicate n [x]).flatten = List.replicate n x
  | 0 => rfl
  | n + 1 => by rw [List.replicate_succ, List.flatten_cons, flat_rep x n]; rfl
theorem nv_rep {fa fb : Ex} {ta : Option α} {tb : Option Int} (ha : Rv fa s (fun a => .lst [e a]) ta) (hb : Rv fb s D.int tb) : Nv (eBin gRepO fa fb) s (oL e) (ta.bind fun a => tb.bind fun n => repG n a) := fun b ck ρ m r p q => by
  obtain ⟨a, e1, q⟩ := bnd q
  obtain ⟨n, e2, q⟩ := bnd q
  obtain ⟨x, e3, l3⟩ := ha b ck ρ m r a e1
  obtain ⟨y, e4, l4⟩ := hb b ck ρ m r n e2
  unfold repG at q
  split at q
  · rename_i z
    cases q
    have z := small_iff.mp z
    show (fa ρ m).bind _ = _
    rw [e3]
    show (fb ρ m).bind _ = _
    rw [e4]
    show (look m x).bind _ = _
    rw [l3.look]
    show (look m y).bind _ = _
    rw [l4.look]
    show (if okP (-(2 ^ 63) ≤ n ∧ n < 2 ^ 63 ∧ [e a].length * n.toNat ≤ big) = true then _ else _) = _
    rw [if_pos (okP_true ⟨by omega, by omega, by show 1 * n.toNat ≤ 1000000; omega⟩)]
    show some (E.own m.length, m ++ [O.lst (List.replicate n.toNat [e a]).flatten]) = _
    rw [flat_rep]
    show _ = some (E.own m.length, m ++ [O.lst ((List.replicate n.toNat a).map e)])
    rw [List.map_replicate]
  · cases q
section
variable {ei : α → D} {ef : β → D} {it : Ix} {vs : List Nat} {tg : Tg} {tt : Tx} {te : Ex} {l : Option (List α)} {S1 : α → List Sl}
theorem nv_lcM {c : α → Option Bool} {f : α → Option β} (hi : Iv it s ei l) (ht : ∀ a, TgR tg (ei a) (wipeS s vs) (S1 a)) (hc : ∀ a, Tv tt (S1 a) (c a)) (hf : ∀ a, Ev te (S1 a) ef (f a)) : Nv (eLcO it vs tg tt te) s (oL ef) (l.bind fun xs => lcM c f xs) := fun b ck ρ m r ys q => by
  obtain ⟨xs, h1, q⟩ := bnd q
  show (it ρ m).bind _ = _
  rw [hi b ck ρ m r xs h1]
  show (lcLoop tg tt te (wipeE ρ vs) (xs.map ei) m).bind _ = _
  rw [lcLoop_eq (r.wipe vs) ht hc hf xs ys q]
  rfl
theorem nv_lc {c : α → Bool} {f : α → β} (hi : Iv it s ei l) (ht : ∀ a, TgR tg (ei a) (wipeS s vs) (S1 a)) (hc : ∀ a, Tv tt (S1 a) (some (c a))) (hf : ∀ a, Ev te (S1 a) ef (some (f a))) : Nv (eLcO it vs tg tt te) s (oL ef) (l.bind fun xs => some ((xs.filter c).map f)) := by
  have := nv_lcM (c := fun a => some (c a)) (f := fun a => some (f a)) hi ht hc hf
  simp only [lcM_some] at this
  exact this
theorem nv_mpM {f : α → Option β} (hi : Iv it s ei l) (ht : ∀ a, TgR tg (ei a) (wipeS s vs) (S1 a)) (hf : ∀ a, Ev te (S1 a) ef (f a)) : Nv (eLcO it vs tg tTrue te) s (oL ef) (l.bind fun xs => mpM f xs) := by
  have := nv_lcM (c := fun a => some true) (f := f) hi ht (fun a => tv_true) hf
  simp only [lcM_true] at this
  exact this
theorem nv_mp {f : α → β} (hi : Iv it s ei l) (ht : ∀ a, TgR tg (ei a) (wipeS s vs) (S1 a)) (hf : ∀ a, Ev te (S1 a) ef (some (f a))) : Nv (eLcO it vs tg tTrue te) s (oL ef) (l.bind fun xs => some (xs.map f)) := by
  have := nv_mpM (f := fun a => some (f a)) hi ht hf
  simp only [mpM_some] at this
  exact this
theorem nd_lcD {l : Option (List α × Int)} {tc : α → Int → Option (Bool × Int)} {f : α → Int → Option (β × Int)} (hi : Id it s ei c l) (ht : ∀ a, TgR tg (ei a) (wipeS s vs) (S1 a)) (hc : ∀ a c, Td tt (S1 a) c (tc a c)) (hf : ∀ a c, Dv te (S1 a) ef c (f a c)) : Nd (eLcO it vs tg tt te) s (oL ef) c (l.bind fun p => lcD tc f p.1 p.2) := fun b ρ m r ys c' q => by
  obtain ⟨⟨xs, c1⟩, h1, q⟩ := bnd q
  show (it ρ m).bind _ = _
  rw [hi b ρ m r xs c1 h1]
  show (lcLoop tg tt te (wipeE ρ vs) (xs.map ei) _).bind _ = _
  rw [lcLoopD_eq ht hc hf xs _ c1 c' ys ((r.ckset c1).wipe vs) q, set_set0]
  show some (E.own (m.set 0 (ckO c')).length, _) = _
  rw [List.length_set]
  rfl
theorem nd_mpD {l : Option (List α × Int)} {f : α → Int → Option (β × Int)} (hi : Id it s ei c l) (ht : ∀ a, TgR tg (ei a) (wipeS s vs) (S1 a)) (hf : ∀ a c, Dv te (S1 a) ef c (f a c)) : Nd (eLcO it vs tg tTrue te) s (oL ef) c (l.bind fun p => mpD f p.1 p.2) := by
  have := nd_lcD (tc := fun _ c => some (true, c)) hi ht (fun a c => td_tv tv_true) hf
  simp only [lcD_true] at this
  exact this
end
/-! a, b = v -/
theorem sk_asg {tg : Tg} {S1 : α → List Sl} (h : Ev fe s e t) (ht : ∀ a, TgR tg (e a) s (S1 a)) (hk : ∀ a, Sk g (S1 a) ck out (T a)) : Sk (sSeq (sAsg fe tg) g) s ck out (t.bind T) := fun b ρ m r o q => by
  obtain ⟨a, h1, q⟩ := bnd q
  obtain ⟨ρ1, h2, r2⟩ := ht a b ck ρ m r
  show ∃ r, ((fe ρ m).bind _).bind _ = some r ∧ _
  rw [h b ck ρ m r a h1]
  show ∃ r, ((tg (.d (e a)) ρ).bind _).bind _ = some r ∧ _
  rw [h2]
  exact hk a b _ _ r2 o q
theorem sk_asgD {tg : Tg} {S1 : α → List Sl} {t : Option (α × Int)} {T : α × Int → Option τ} (h : Dv fe s e c t) (ht : ∀ a, TgR tg (e a) s (S1 a)) (hk : ∀ p : α × Int, Sk g (S1 p.1) (some p.2) out (T p)) : Sk (sSeq (sAsg fe tg) g) s (some c) out (t.bind T) := fun b ρ m r o q => by
  obtain ⟨⟨a, c1⟩, h1, q⟩ := bnd q
  obtain ⟨ρ1, h2, r2⟩ := ht a b _ ρ m r
  show ∃ r, ((fe ρ m).bind _).bind _ = some r ∧ _
  rw [h b ρ m r a c1 h1]
  show ∃ r, ((tg (.d (e a)) ρ).bind _).bind _ = some r ∧ _
  rw [h2]
  exact hk (a, c1) b _ _ (r2.ckset c1) o q
/-! append and its like -/
def snoc {α : Type} (xs : List α) (a : α) : Option (List α) := if fits (xs.length + 1) = true then some (xs ++ [a]) else none
def catG {α : Type} (xs ys : List α) : Option (List α) := if fits (xs.length + ys.length) = true then some (xs ++ ys) else none
theorem seqExp_eq {ρ : Rho} {m m' : Store} {x : E} (h : fe ρ m = some (x, m')) : sSeq (sExp fe) g ρ m = g ρ m' := by
  show ((fe ρ m).bind _).bind _ = _
  rw [h]
  rfl
theorem cellL_of {m : Store} {k : Nat} {xs : List D} (h : m[k]? = some (.lst xs)) : cellL m k = some xs := by
  unfold cellL; simp only [h]
theorem snoc_some {α : Type} {xs ys : List α} {a : α} (h : snoc xs a = some ys) : xs.length < big ∧ ys = xs ++ [a] := by
  unfold snoc at h
  split at h
  · rename_i z
    cases h
    exact ⟨fits_big z, rfl⟩
  · cases h
theorem catG_some {α : Type} {xs ys zs : List α} (h : catG xs ys = some zs) : xs.length + ys.length ≤ big ∧ zs = xs ++ ys := by
  unfold catG at h
  split at h
  · rename_i z
    cases h
    exact ⟨fits_big z, rfl⟩
  · cases h
theorem sk_app (i : Nat) {xs : List α} {S1 : List α → List Sl} {T : List α → Option τ} (ho : s[i]? = some (.own (oL e xs))) (h : Ev fe s e t) (hs : ∀ ys, s.set i (.own (oL e ys)) = S1 ys) (hk : ∀ ys, Sk g (S1 ys) ck out (T ys)) : Sk (sSeq (sExp (eApp (eV i) fe)) g) s ck out (t.bind fun a => (snoc xs a).bind T) := fun b ρ m r o q => by
  obtain ⟨a, h1, q⟩ := bnd q
  obtain ⟨ys, h2, q⟩ := bnd q
  obtain ⟨hb, rfl⟩ := snoc_some h2
  obtain ⟨k, g1, g2, g3, g4, g5, g6⟩ := r.own ho
  rw [seqExp_eq (m' := m.set k (.lst (xs.map e ++ [e a]))) (x := .d .non)]
  · have := g5 (oL e (xs ++ [a]))
    rw [hs] at this
    have e1 : oL e (xs ++ [a]) = .lst (xs.map e ++ [e a]) := by unfold oL; rw [List.map_append]; rfl
    rw [e1] at this
    exact hk _ b _ _ this o q
  · show (eV i ρ m).bind _ = _
    rw [eV_eq g1]
    show (cellL m k).bind _ = _
    rw [cellL_of g2]
    show (fe ρ m).bind _ = _
    rw [h b ck ρ m r a h1]
    show (cellL m k).bind _ = _
    rw [cellL_of g2]
    show (if (xs.map e).length < big then _ else _) = _
    rw [if_pos (by rw [List.length_map]; exact hb)]
theorem sk_appD (i : Nat) {xs : List α} {S1 : List α → List Sl} {t : Option (α × Int)} {T : α × Int → List α → Option τ} (ho : s[i]? = some (.own (oL e xs))) (h : Dv fe s e c t) (hs : ∀ ys, s.set i (.own (oL e ys)) = S1 ys) (hk : ∀ (p : α × Int) ys, Sk g (S1 ys) (some p.2) out (T p ys)) : Sk (sSeq (sExp (eApp (eV i) fe)) g) s (some c) out (t.bind fun p => (snoc xs p.1).bind (T p)) := fun b ρ m r o q => by
  obtain ⟨⟨a, c1⟩, h1, q⟩ := bnd q
  obtain ⟨ys, h2, q⟩ := bnd q
  obtain ⟨hb, rfl⟩ := snoc_some h2
  obtain ⟨k', g1', g2', g3', _⟩ := r.own ho
  obtain ⟨k, g1, g2, g3, g4, g5, g6⟩ := (r.ckset c1).own ho
  rw [g1'] at g1
  cases g1
  have g1 := g1'
  rw [seqExp_eq (m' := (m.set 0 (ckO c1)).set k' (.lst (xs.map e ++ [e a]))) (x := .d .non)]
  · have := g5 (oL e (xs ++ [a]))
    rw [hs] at this
    have e1 : oL e (xs ++ [a]) = .lst (xs.map e ++ [e a]) := by unfold oL; rw [List.map_append]; rfl
    rw [e1] at this
    exact hk (a, c1) _ b _ _ this o q
  · show (eV i ρ m).bind _ = _
    rw [eV_eq g1]
    show (cellL m k').bind _ = _
    rw [cellL_of g2']
    show (fe ρ m).bind _ = _
    rw [h b ρ m r a c1 h1]
    show (cellL _ k').bind _ = _
    rw [cellL_of g2]
    show (if (xs.map e).length < big then _ else _) = _
    rw [if_pos (by rw [List.length_map]; exact hb)]
theorem sk_ext (i : Nat) {xs : List α} {S1 : List α → List Sl} {t : Option (List α)} {T : List α → Option τ} (ho : s[i]? = some (.own (oL e xs))) (h : Ev fe s (eL e) t) (hs : ∀ ys, s.set i (.own (oL e ys)) = S1 ys) (hk : ∀ ys, Sk g (S1 ys) ck out (T ys)) : Sk (sSeq (sExp (eExt (eV i) fe)) g) s ck out (t.bind fun a => (catG xs a).bind T) := fun b ρ m r o q => by
  obtain ⟨a, h1, q⟩ := bnd q
  obtain ⟨ys, h2, q⟩ := bnd q
  obtain ⟨hb, rfl⟩ := catG_some h2
  obtain ⟨k, g1, g2, g3, g4, g5, g6⟩ := r.own ho
  rw [seqExp_eq (m' := m.set k (.lst (xs.map e ++ a.map e))) (x := .d .non)]
  · have := g5 (oL e (xs ++ a))
    rw [hs] at this
    have e1 : oL e (xs ++ a) = .lst (xs.map e ++ a.map e) := by unfold oL; rw [List.map_append]
    rw [e1] at this
    exact hk _ b _ _ this o q
  · show (eV i ρ m).bind _ = _
    rw [eV_eq g1]
    show (cellL m k).bind _ = _
    rw [cellL_of g2]
    show (fe ρ m).bind _ = _
    rw [h b ck ρ m r a h1]
    show (cellL m k).bind _ = _
    rw [cellL_of g2]
    show (if (xs.map e).length + (a.map e).length ≤ big then _ else _) = _
    rw [if_pos (by rw [List.length_map, List.length_map]; exact hb)]
/-- x.append(y), y a list in the making, which is not written any more -/
theorem sk_appO (i j : Nat) {xs : List α} {a : α} {w : O} {S1 : List α → List Sl} {T : List α → Option τ} (hij : i ≠ j) (ho : s[i]? = some (.own (oL e xs))) (hj : s[j]? = some (.own w)) (hw : lookO w = e a) (hs : ∀ ys, (s.set j (.lo (e a))).set i (.own (oL e ys)) = S1 ys) (hk : ∀ ys, Sk g (S1 ys) ck out (T ys)) : Sk (sSeq (sExp (eApp (eV i) (eV j))) g) s ck out ((snoc xs a).bind T) := fun b ρ m r o q => by
  obtain ⟨ys, h2, q⟩ := bnd q
  obtain ⟨hb, rfl⟩ := snoc_some h2
  obtain ⟨k, g1, g2, g3, g4, g5, g6⟩ := r.own ho
  obtain ⟨l, f1, f2, f3, f4, f5, f6, f7⟩ := r.own hj
  rw [hw] at f6
  have ho2 : (s.set j (.lo (e a)))[i]? = some (.own (oL e xs)) := by rw [List.getElem?_set_ne (Ne.symm hij)]; exact ho
  obtain ⟨k2, p1, p2, p3, p4, p5, p6⟩ := f6.own ho2
  rw [g1] at p1
  cases p1
  rw [seqExp_eq (m' := (m.set l (.frz (e a))).set k (.lst (xs.map e ++ [e a]))) (x := .d .non)]
  · have := p5 (oL e (xs ++ [a]))
    rw [hs] at this
    have e1 : oL e (xs ++ [a]) = .lst (xs.map e ++ [e a]) := by unfold oL; rw [List.map_append]; rfl
    rw [e1] at this
    exact hk _ b _ _ this o q
  · show (eV i ρ m).bind _ = _
    rw [eV_eq g1]
    show (cellL m k).bind _ = _
    rw [cellL_of g2]
    show (eV j ρ m).bind _ = _
    rw [eV_eq f1]
    show ((look m (.own l)).bind _).bind _ = _
    rw [look_own f2, hw]
    show (cellL (m.set l (.frz (e a))) k).bind _ = _
    rw [cellL_of p2]
    show (if (xs.map e).length < big then _ else _) = _
    rw [if_pos (by rw [List.length_map]; exact hb)]
/-- x.pop() -/
def popG {α : Type} (xs : List α) : Option (α × List α) := (xs[xs.length - 1]?).map fun a => (a, xs.dropLast)
theorem pop_eq {i : Nat} {xs : List α} {a : α} {ρ : Rho} {m : Store} {b : Store} (r : Rel b ck s ρ m) (ho : s[i]? = some (.own (oL e xs))) (h : xs[xs.length - 1]? = some a) : ∃ m', ePop (eV i) ρ m = some (.d (e a), m') ∧ Rel b ck (s.set i (.own (oL e xs.dropLast))) ρ m' := by
  obtain ⟨k, g1, g2, g3, g4, g5, g6⟩ := r.own ho
  refine ⟨_, ?_, g5 _⟩
  show (eV i ρ m).bind _ = _
  rw [eV_eq g1]
  show (cellL m k).bind _ = _
  rw [cellL_of g2]
  show ((xs.map e)[(xs.map e).length - 1]?).bind _ = _
  rw [List.length_map, List.getElem?_map, h]
  show some (E.d (e a), m.set k (.lst (xs.map e).dropLast)) = _
  unfold oL
  rw [List.map_dropLast]
theorem sk_pop (i : Nat) {xs : List α} {S1 : List α → List Sl} {T : α × List α → Option τ} (ho : s[i]? = some (.own (oL e xs))) (hs : ∀ ys, s.set i (.own (oL e ys)) = S1 ys) (hk : ∀ p : α × List α, Sk g (S1 p.2) ck out (T p)) : Sk (sSeq (sExp (ePop (eV i))) g) s ck out ((popG xs).bind T) := fun b ρ m r o q => by
  obtain ⟨p, h1, q⟩ := bnd q
  obtain ⟨a, h2, rfl⟩ := Option.map_eq_some_iff.mp h1
  obtain ⟨m', h3, h4⟩ := pop_eq r ho h2
  rw [seqExp_eq h3]
  rw [hs] at h4
  exact hk _ b _ _ h4 o q
theorem sk_setPop (i j : Nat) {xs : List α} {S1 : α × List α → List Sl} {T : α × List α → Option τ} (ho : s[i]? = some (.own (oL e xs))) (hs : ∀ p : α × List α, (s.set i (.own (oL e p.2))).set j (.val (e p.1)) = S1 p) (hk : ∀ p : α × List α, Sk g (S1 p) ck out (T p)) : Sk (sSeq (sSet j (ePop (eV i))) g) s ck out ((popG xs).bind T) := fun b ρ m r o q => by
  obtain ⟨p, h1, q⟩ := bnd q
  obtain ⟨a, h2, rfl⟩ := Option.map_eq_some_iff.mp h1
  obtain ⟨m', h3, h4⟩ := pop_eq r ho h2
  rw [seqSet_eq h3]
  have := h4.setv j (e a)
  rw [show (s.set i (.own (oL e xs.dropLast))).set j (.val (e a)) = S1 (a, xs.dropLast) from hs (a, xs.dropLast)] at this
  exact hk _ b _ _ this o q
/-! if -/
theorem seqIf_eq {tt : Tx} {ρ : Rho} {m m' : Store} {x : Bool} (h : tt ρ m = some (x, m')) : sSeq (sIf tt A B) g ρ m = if x = true then sSeq A g ρ m' else sSeq B g ρ m' := by
  show ((tt ρ m).bind _).bind _ = _
  rw [h]
  show (if x = true then A ρ m' else B ρ m').bind _ = _
  split <;> rfl
theorem sk_if {tt : Tx} {x : Option Bool} {ta tb : Option τ} (hc : Tv tt s x) (ha : Sk (sSeq A g) s ck out ta) (hb : Sk (sSeq B g) s ck out tb) : Sk (sSeq (sIf tt A B) g) s ck out (x.bind fun y => if y = true then ta else tb) := fun b ρ m r o q => by
  obtain ⟨y, h1, q⟩ := bnd q
  rw [seqIf_eq (hc b ck ρ m r y h1)]
  split at q
  · rename_i z; rw [if_pos z]; exact ha b _ _ r o q
  · rename_i z; rw [if_neg z]; exact hb b _ _ r o q
theorem sk_ifD {tt : Tx} {x : Option (Bool × Int)} {ta tb : Bool × Int → Option τ} (hc : Td tt s c x) (ha : ∀ y : Bool × Int, Sk (sSeq A g) s (some y.2) out (ta y)) (hb : ∀ y : Bool × Int, Sk (sSeq B g) s (some y.2) out (tb y)) : Sk (sSeq (sIf tt A B) g) s (some c) out (x.bind fun y => if y.1 = true then ta y else tb y) := fun b ρ m r o q => by
  obtain ⟨⟨y, c1⟩, h1, q⟩ := bnd q
  rw [seqIf_eq (hc b ρ m r y c1 h1)]
  have q : (if y = true then ta (y, c1) else tb (y, c1)) = some o := q
  split at q
  · rename_i z; rw [if_pos z]; exact ha (y, c1) b _ _ (r.ckset c1) o q
  · rename_i z; rw [if_neg z]; exact hb (y, c1) b _ _ (r.ckset c1) o q
/-- a statement, and what is behind it, by the state between -/
theorem sk_join {S : σ → List Sl} {C : σ → Option Int} {ta : Option σ} {T : σ → Option τ} (ha : Sk A s ck (fun y => .nx (S y) (C y)) ta) (hk : ∀ y, Sk g (S y) (C y) out (T y)) : Sk (sSeq A g) s ck out (ta.bind T) := fun b ρ m r o q => by
  obtain ⟨y, h1, q⟩ := bnd q
  obtain ⟨⟨fl, ρ', m'⟩, h2, h3, h4⟩ := ha b ρ m r y h1
  have h3 : fl = .nx := h3
  subst h3
  show ∃ r, (A ρ m).bind _ = some r ∧ _
  rw [h2]
  exact hk y b _ _ h4 o q
/-- with ways out -/
def outX {σ ρ τ : Type} (S : σ → List Sl) (C : σ → Option Int) (out : τ → Out) (R : ρ → τ) : Fx' σ ρ → Out
  | .nx y => .nx (S y) (C y)
  | .bk y => .nx (S y) (C y)
  | .rt r => out (R r)
def Ends (o : Out) : Prop := match o with
  | .nx _ _ => False
  | _ => True
def Leaves (o : Out) : Prop := match o with
  | .rt _ _ => True
  | .bk _ _ => True
  | _ => False
theorem sk_joinX {ρ' : Type} {S : σ → List Sl} {C : σ → Option Int} {R : ρ' → τ} {ta : Option (Fx' σ ρ')} {T : σ → Option τ} (hR : ∀ r, Leaves (out (R r))) (ha : Sk A s ck (outX S C out R) ta) (hk : ∀ y, Sk g (S y) (C y) out (T y)) : Sk (sSeq A g) s ck out (ta.bind (TL.behind T R)) := fun b ρ m r o q => by
  obtain ⟨y, h1, q⟩ := bnd q
  obtain ⟨⟨fl, ρ', m'⟩, h2, h3⟩ := ha b ρ m r y h1
  show ∃ r, (A ρ m).bind _ = some r ∧ _
  rw [h2]
  cases y with
  | nx y =>
    obtain ⟨h3, h4⟩ := h3
    have h3 : fl = .nx := h3
    subst h3
    exact hk y b _ _ h4 o q
  | bk y =>
    obtain ⟨h3, h4⟩ := h3
    have h3 : fl = .nx := h3
    subst h3
    exact hk y b _ _ h4 o q
  | rt r' =>
    cases q
    have hl := hR r'
    have h3 : OutOk b (out (R r')) (fl, ρ', m') := h3
    refine ⟨(fl, ρ', m'), ?_, h3⟩
    show (match fl with | .nx => g ρ' m' | _ => some (fl, ρ', m')) = _
    cases w : out (R r') with
    | nx _ _ => rw [w] at hl; exact hl.elim
    | lp _ _ => rw [w] at hl; exact hl.elim
    | bk _ _ => rw [w] at h3; obtain ⟨h3, _⟩ := h3; have h3 : fl = _ := h3; subst h3; rfl
    | rt _ _ => rw [w] at h3; obtain ⟨e, h3, _⟩ := h3; have h3 : fl = _ := h3; subst h3; rfl
theorem sk_if0 {tt : Tx} {x : Option Bool} {ta tb : Option τ} (hc : Tv tt s x) (ha : Sk A s ck out ta) (hb : Sk B s ck out tb) : Sk (sIf tt A B) s ck out (x.bind fun y => if y = true then ta else tb) := sk_last (sk_if hc (by rw [sSeq_nil]; exact ha) (by rw [sSeq_nil]; exact hb))
theorem sk_ifD0 {tt : Tx} {x : Option (Bool × Int)} {ta tb : Bool × Int → Option τ} (hc : Td tt s c x) (ha : ∀ y : Bool × Int, Sk A s (some y.2) out (ta y)) (hb : ∀ y : Bool × Int, Sk B s (some y.2) out (tb y)) : Sk (sIf tt A B) s (some c) out (x.bind fun y => if y.1 = true then ta y else tb y) := sk_last (sk_ifD hc (fun c' => by rw [sSeq_nil]; exact ha c') (fun c' => by rw [sSeq_nil]; exact hb c'))
/-! loops -/
/-- what is walked: t gives γ, of which X are the items; then the slots and the counter are as told -/
def Ig (it : Ix) (s : List Sl) (ck : Option Int) {α γ : Type} (e : α → D) (X : γ → List α) (S' : γ → List Sl) (C' : γ → Option Int) (t : Option γ) : Prop := ∀ b ρ m, Rel b ck s ρ m → ∀ y, t = some y → ∃ m', it ρ m = some ((X y).map e, m') ∧ Rel b (C' y) (S' y) ρ m'
theorem ig_iv {it : Ix} {l : Option (List α)} (h : Iv it s e l) : Ig it s ck e id (fun _ => s) (fun _ => ck) l := fun b ρ m r y q => ⟨m, h b ck ρ m r y q, r⟩
theorem ig_id {it : Ix} {l : Option (List α × Int)} (h : Id it s e c l) : Ig it s (some c) e (fun p : List α × Int => p.1) (fun _ => s) (fun p => some p.2) l := fun b ρ m r y q => ⟨_, h b ρ m r y.1 y.2 q, r.ckset y.2⟩
theorem ig_own (i : Nat) {xs : List α} (h : s[i]? = some (.own (oL e xs))) : Ig (iSeq (eV i)) s ck e id (fun _ => s.set i (.lo (eL e xs))) (fun _ => ck) (some xs) := fun b ρ m r y q => by
  cases q
  obtain ⟨k, g1, g2, g3, g4, g5, g6, g7⟩ := r.own h
  refine ⟨_, ?_, g6⟩
  show (eV i ρ m).bind _ = _
  rw [eV_eq g1]
  show ((look m (.own k)).bind _).bind _ = _
  rw [look_own g2]
  rfl
/-- a list that may be read only, walked: it may be frozen anew -/
theorem forL_M {b : Store} {tg : Tg} {body : Sx} {S : σ → List Sl} {C : σ → Option Int} {S1 : σ → α → List Sl} {tb : σ → α → Option σ} (ht : ∀ x a, TgR tg (e a) (S x) (S1 x a)) (hb : ∀ x a, Sk body (S1 x a) (C x) (fun y => .lp (S y) (C y)) (tb x a)) :
    ∀ (xs : List α) (x y : σ) (ρ : Rho) (m : Store), Rel b (C x) (S x) ρ m → lpM tb xs x = some y → ∃ ρ' m', forL tg body (xs.map e) ρ m = some (.nx, ρ', m') ∧ Rel b (C y) (S y) ρ' m'
  | [], x, y, ρ, m, r, h => by cases h; exact ⟨ρ, m, rfl, r⟩
  | a :: xs, x, y, ρ, m, r, h => by
    obtain ⟨z, h1, h⟩ := bnd h
    obtain ⟨ρ1, h2, r2⟩ := ht x a b _ ρ m r
    obtain ⟨⟨fl, ρ2, m2⟩, h3, h4, h5⟩ := hb x a b ρ1 m r2 z h1
    obtain ⟨ρ3, m3, h6, r3⟩ := forL_M ht hb xs z y ρ2 m2 h5 h
    refine ⟨ρ3, m3, ?_, r3⟩
    show (tg (.d (e a)) ρ).bind _ = _
    rw [h2]
    show (body ρ1 m).bind _ = _
    rw [h3]
    rcases h4 with h4 | h4
    · have h4 : fl = _ := h4; subst h4; exact h6
    · have h4 : fl = _ := h4; subst h4; exact h6
theorem sk_forM {it : Ix} {tg : Tg} {body : Sx} {l : Option γ} {X : γ → List α} {S' : γ → List Sl} {C' : γ → Option Int} {S : σ → List Sl} {C : σ → Option Int} {S1 : σ → α → List Sl} {tb : σ → α → Option σ} {T : σ → Option τ} (x0 : γ → σ)
    (hi : Ig it s ck e X S' C' l) (w : ∀ y, Wk (S' y) (S (x0 y))) (hc : ∀ y, C (x0 y) = C' y) (ht : ∀ x a, TgR tg (e a) (S x) (S1 x a)) (hb : ∀ x a, Sk body (S1 x a) (C x) (fun y => .lp (S y) (C y)) (tb x a)) (hk : ∀ x, Sk g (S x) (C x) out (T x)) :
    Sk (sSeq (sFor it tg body) g) s ck out (l.bind fun y => (lpM tb (X y) (x0 y)).bind T) := fun b ρ m r o q => by
  obtain ⟨y, h1, q⟩ := bnd q
  obtain ⟨z, h2, q⟩ := bnd q
  obtain ⟨m1, h3, r1⟩ := hi b ρ m r y h1
  have r2 := r1.wk (w y)
  rw [← hc y] at r2
  obtain ⟨ρ2, m2, h4, r3⟩ := forL_M ht hb (X y) (x0 y) z ρ m1 r2 h2
  show ∃ r, ((it ρ m).bind _).bind _ = some r ∧ _
  rw [h3]
  show ∃ r, (forL tg body ((X y).map e) ρ m1).bind _ = some r ∧ _
  rw [h4]
  exact hk z b _ _ r3 o q
/-- the ends of a body with ways out -/
def outB {σ ρ τ : Type} (S : σ → List Sl) (C : σ → Option Int) (out : τ → Out) (R : ρ → τ) : Fx' σ ρ → Out
  | .nx y => .lp (S y) (C y)
  | .bk y => .bk (S y) (C y)
  | .rt r => out (R r)
def IsRet (o : Out) : Prop := match o with
  | .rt _ _ => True
  | _ => False
theorem forL_X {ρ' : Type} {b : Store} {tg : Tg} {body : Sx} {S : σ → List Sl} {C : σ → Option Int} {S1 : σ → α → List Sl} {R : ρ' → τ} {tb : σ → α → Option (Fx' σ ρ')} (hR : ∀ r, IsRet (out (R r))) (ht : ∀ x a, TgR tg (e a) (S x) (S1 x a)) (hb : ∀ x a, Sk body (S1 x a) (C x) (outB S C out R) (tb x a)) :
    ∀ (xs : List α) (x : σ) (y : Fx' σ ρ') (ρ : Rho) (m : Store), Rel b (C x) (S x) ρ m → lpX tb xs x = some y → ∃ r, forL tg body (xs.map e) ρ m = some r ∧ OutOk b (outX S C out R y) r
  | [], x, y, ρ, m, r, h => by cases h; exact ⟨(.nx, ρ, m), rfl, rfl, r⟩
  | a :: xs, x, y, ρ, m, r, h => by
    obtain ⟨z, h1, h⟩ := bnd h
    obtain ⟨ρ1, h2, r2⟩ := ht x a b _ ρ m r
    obtain ⟨⟨fl, ρ2, m2⟩, h3, h4⟩ := hb x a b ρ1 m r2 z h1
    show ∃ r, (tg (.d (e a)) ρ).bind _ = some r ∧ _
    rw [h2]
    show ∃ r, (body ρ1 m).bind _ = some r ∧ _
    rw [h3]
    cases z with
    | nx z =>
      obtain ⟨h4, h5⟩ := h4
      obtain ⟨r', h6, h7⟩ := forL_X hR ht hb xs z y ρ2 m2 h5 h
      rcases h4 with h4 | h4
      · have h4 : fl = _ := h4; subst h4; exact ⟨r', h6, h7⟩
      · have h4 : fl = _ := h4; subst h4; exact ⟨r', h6, h7⟩
    | bk z =>
      obtain ⟨h4, h5⟩ := h4
      have h4 : fl = _ := h4
      subst h4
      cases h
      exact ⟨(.nx, ρ2, m2), rfl, rfl, h5⟩
    | rt z =>
      cases h
      have h4 : OutOk b (out (R z)) (fl, ρ2, m2) := h4
      have hl := hR z
      cases w : out (R z) with
      | rt d ck' =>
        have h5 := h4
        rw [w] at h5
        obtain ⟨e', h5, _⟩ := h5
        have h5 : fl = _ := h5
        subst h5
        exact ⟨(.rt e', ρ2, m2), rfl, h4⟩
      | _ => rw [w] at hl; exact hl.elim
theorem sk_forX {ρ' : Type} {it : Ix} {tg : Tg} {body : Sx} {l : Option γ} {X : γ → List α} {S' : γ → List Sl} {C' : γ → Option Int} {S : σ → List Sl} {C : σ → Option Int} {S1 : σ → α → List Sl} {R : ρ' → τ} {tb : σ → α → Option (Fx' σ ρ')} {T : σ → Option τ} (x0 : γ → σ) (hR : ∀ r, IsRet (out (R r)))
    (hi : Ig it s ck e X S' C' l) (w : ∀ y, Wk (S' y) (S (x0 y))) (hc : ∀ y, C (x0 y) = C' y) (ht : ∀ x a, TgR tg (e a) (S x) (S1 x a)) (hb : ∀ x a, Sk body (S1 x a) (C x) (outB S C out R) (tb x a)) (hk : ∀ x, Sk g (S x) (C x) out (T x)) :
    Sk (sSeq (sFor it tg body) g) s ck out (l.bind fun y => (lpX tb (X y) (x0 y)).bind (TL.behind T R)) := fun b ρ m r o q => by
  obtain ⟨y, h1, q⟩ := bnd q
  refine sk_joinX (S := S) (C := C) (R := R) (A := sFor it tg body) (ta := l.bind fun y => lpX tb (X y) (x0 y)) (fun r => ?_) (fun b ρ m r z q => ?_) hk b ρ m r o ?_
  · have := hR r
    cases w : out (R r) with
    | rt d c => trivial
    | _ => rw [w] at this; exact this.elim
  · obtain ⟨y, h1, q⟩ := bnd q
    obtain ⟨m1, h3, r1⟩ := hi b ρ m r y h1
    have r2 := r1.wk (w y)
    rw [← hc y] at r2
    obtain ⟨r', h4, h5⟩ := forL_X hR ht hb (X y) (x0 y) z ρ m1 r2 q
    refine ⟨r', ?_, h5⟩
    show (it ρ m).bind _ = _
    rw [h3]
    exact h4
  · rw [h1]; exact q
theorem sk_whM {tt : Tx} {body : Sx} {S : σ → List Sl} {C : σ → Option Int} {tc : σ → Option Bool} {tb : σ → Option σ} {T : σ → Option τ} {n : Nat} (x0 : σ) (w : Wk s (S x0)) (hc0 : C x0 = ck) (hc : ∀ x, Tv tt (S x) (tc x)) (hb : ∀ x, Sk body (S x) (C x) (fun y => .lp (S y) (C y)) (tb x)) (hk : ∀ x, Sk g (S x) (C x) out (T x)) :
    Sk (sSeq (sWhile n tt body) g) s ck out ((whM tc tb n x0).bind T) := by
  refine sk_join (S := S) (C := C) (fun b ρ m r z q => ?_) hk
  have r1 := r.wk w
  rw [← hc0] at r1
  clear r w hc0
  show ∃ r, whileF tt body n ρ m = some r ∧ _
  induction n generalizing x0 ρ m with
  | zero => cases q
  | succ n ih =>
    obtain ⟨y, h1, q⟩ := bnd q
    show ∃ r, (tt ρ m).bind _ = some r ∧ _
    rw [hc x0 b _ ρ m r1 y h1]
    cases y with
    | false =>
      rw [if_neg (by simp)] at q
      cases q
      exact ⟨(.nx, ρ, m), rfl, rfl, r1⟩
    | true =>
      rw [if_pos rfl] at q
      obtain ⟨x1, h2, q⟩ := bnd q
      obtain ⟨⟨fl, ρ2, m2⟩, h3, h4, h5⟩ := hb x0 b ρ m r1 x1 h2
      show ∃ r, (body ρ m).bind _ = some r ∧ _
      rw [h3]
      rcases h4 with h4 | h4
      · have h4 : fl = _ := h4; subst h4; exact ih x1 ρ2 m2 q h5
      · have h4 : fl = _ := h4; subst h4; exact ih x1 ρ2 m2 q h5
theorem sk_whX {ρ' : Type} {tt : Tx} {body : Sx} {S : σ → List Sl} {C : σ → Option Int} {R : ρ' → τ} {tc : σ → Option Bool} {tb : σ → Option (Fx' σ ρ')} {T : σ → Option τ} {n : Nat} (x0 : σ) (hR : ∀ r, IsRet (out (R r))) (w : Wk s (S x0)) (hc0 : C x0 = ck) (hc : ∀ x, Tv tt (S x) (tc x)) (hb : ∀ x, Sk body (S x) (C x) (outB S C out R) (tb x)) (hk : ∀ x, Sk g (S x) (C x) out (T x)) :
    Sk (sSeq (sWhile n tt body) g) s ck out ((whX tc tb n x0).bind (TL.behind T R)) := by
  refine sk_joinX (S := S) (C := C) (fun r => ?_) (fun b ρ m r z q => ?_) hk
  · have := hR r
    cases w : out (R r) with
    | rt d c => trivial
    | _ => rw [w] at this; exact this.elim
  have r1 := r.wk w
  rw [← hc0] at r1
  clear r w hc0
  show ∃ r, whileF tt body n ρ m = some r ∧ _
  induction n generalizing x0 ρ m with
  | zero => cases q
  | succ n ih =>
    obtain ⟨y, h1, q⟩ := bnd q
    show ∃ r, (tt ρ m).bind _ = some r ∧ _
    rw [hc x0 b _ ρ m r1 y h1]
    cases y with
    | false =>
      rw [if_neg (by simp)] at q
      cases q
      exact ⟨(.nx, ρ, m), rfl, rfl, r1⟩
    | true =>
      rw [if_pos rfl] at q
      obtain ⟨x1, h2, q⟩ := bnd q
      obtain ⟨⟨fl, ρ2, m2⟩, h3, h4⟩ := hb x0 b ρ m r1 x1 h2
      show ∃ r, (body ρ m).bind _ = some r ∧ _
      rw [h3]
      cases x1 with
      | nx x1 =>
        obtain ⟨h4, h5⟩ := h4
        rcases h4 with h4 | h4
        · have h4 : fl = _ := h4; subst h4; exact ih x1 ρ2 m2 q h5
        · have h4 : fl = _ := h4; subst h4; exact ih x1 ρ2 m2 q h5
      | bk x1 =>
        obtain ⟨h4, h5⟩ := h4
        have h4 : fl = _ := h4
        subst h4
        cases q
        exact ⟨(.nx, ρ2, m2), rfl, rfl, h5⟩
      | rt x1 =>
        cases q
        have h4 : OutOk b (out (R x1)) (fl, ρ2, m2) := h4
        have hl := hR x1
        cases w : out (R x1) with
        | rt d ck' =>
          have h5 := h4
          rw [w] at h5
          obtain ⟨e', h5, _⟩ := h5
          have h5 : fl = _ := h5
          subst h5
          exact ⟨(.rt e', ρ2, m2), rfl, h4⟩
        | _ => rw [w] at hl; exact hl.elim
end
/-! ### functions -/
def slotOf : AV → Sl
  | .x d => .val d
  | .v d => .ro d
  | .deal row t => .deal row t
theorem ArgsOk.length {ck : Option Int} {m : Store} : ∀ {as : List AV} {es : List E}, ArgsOk ck m as es → as.length = es.length
  | [], [], _ => rfl
  | _ :: _, _ :: _, ⟨_, h⟩ => congrArg (· + 1) h.length
  | [], _ :: _, h => h.elim
  | _ :: _, [], h => h.elim
theorem ArgsOk.get {ck : Option Int} {m : Store} : ∀ {as : List AV} {es : List E} (i : Nat) {a : AV}, ArgsOk ck m as es → as[i]? = some a → ∃ e, es[i]? = some e ∧ ArgOk ck m a e
  | _ :: _, e :: _, 0, a, ⟨h1, _⟩, q => by simp at q; subst q; exact ⟨e, rfl, h1⟩
  | _ :: _, _ :: _, i + 1, a, ⟨_, h⟩, q => by
    obtain ⟨e, h1, h2⟩ := h.get i (by simpa using q)
    exact ⟨e, by simpa using h1, h2⟩
  | [], [], i, a, _, q => by simp at q
  | [], _ :: _, _, _, h, _ => h.elim
  | _ :: _, [], _, _, h, _ => h.elim
theorem rel_start {ck : Option Int} {m : Store} {as : List AV} {es : List E} (k : Nat) (hb : BaseOk m ck m) (h : ArgsOk ck m as es) : Rel m ck (as.map slotOf ++ List.replicate k .any) (es.map some ++ List.replicate k none) m := by
  refine ⟨by simp [h.length], hb, fun _ => none, (fun i j k q => nomatch q), (fun i k q => nomatch q), fun i sl q => ?_⟩
  by_cases hi : i < as.length
  · rw [List.getElem?_append_left (by rw [List.length_map]; exact hi), List.getElem?_map] at q
    obtain ⟨a, h1, rfl⟩ := Option.map_eq_some_iff.mp q
    obtain ⟨e, h2, h3⟩ := h.get i h1
    have he : ((es.map some ++ List.replicate k none)[i]?).join = some e := by
      rw [List.getElem?_append_left (by rw [List.length_map, ← h.length]; exact hi), List.getElem?_map, h2]
      rfl
    rw [he]
    cases a with
    | x d => exact congrArg some h3
    | v d =>
      refine ⟨e, rfl, ?_⟩
      rcases h3 with h3 | ⟨k, h3, h4, h5⟩
      · exact .inl h3
      · exact .inr ⟨k, h3, h4, h5, fun j q => nomatch q⟩
    | deal row t => exact congrArg some h3
  · rw [List.getElem?_append_right (by rw [List.length_map]; omega)] at q
    have := List.mem_of_getElem? q
    rw [List.mem_replicate] at this
    rw [this.2]
    trivial
theorem fin_eq {b m' : Store} {e : E} {d : D} (h : RetOk b m' e d) : fin b.length m' e = some (.d d, m'.take b.length) := by
  rcases h with rfl | ⟨k, rfl, h1, h2⟩
  · rfl
  · show (if k < b.length then _ else _) = _
    rw [if_neg (by omega), h2]
    rfl
theorem take_base {m m' : Store} (h : BaseOk m none m') : m'.take m.length = m := by
  obtain ⟨h1, h2, _⟩ := h
  refine List.ext_getElem? fun i => ?_
  by_cases hi : i < m.length
  · rw [List.getElem?_take_of_lt hi]; exact h2 i hi (.inl rfl)
  · rw [List.getElem?_eq_none (by rw [List.length_take]; omega), List.getElem?_eq_none (by omega)]
theorem take_baseD {m m' : Store} {c : Int} (h : BaseOk m (some c) m') : m'.take m.length = m.set 0 (ckO c) := by
  obtain ⟨h1, h2, h3⟩ := h
  obtain ⟨h4, h5⟩ := h3 c rfl
  refine List.ext_getElem? fun i => ?_
  by_cases hi : i < m.length
  · rw [List.getElem?_take_of_lt hi]
    by_cases h0 : i = 0
    · subst h0; rw [h5, List.getElem?_set_self h4]
    · rw [h2 i hi (.inr h0), List.getElem?_set_ne (Ne.symm h0)]
  · rw [List.getElem?_eq_none (by rw [List.length_take]; omega), List.getElem?_eq_none (by rw [List.length_set]; omega)]
theorem fp_body {n k : Nat} {body : Sx} {as : List AV} {R : Type} {e : R → D} {t : Option R} {s : List Sl} (hn : as.length = n) (hs : as.map slotOf ++ List.replicate k .any = s) (h : Sk body s none (fun r => .rt (e r) none) t) : Fp (fnD n k body) as e t := by
  intro ck m es ha r q
  have ha' : ArgsOk none m as es := by
    have : ∀ {as : List AV} {es : List E}, ArgsOk ck m as es → ArgsOk none m as es := by
      intro as
      induction as with
      | nil => intro es h; cases es with | nil => trivial | cons _ _ => exact h.elim
      | cons a as ih =>
        intro es h
        cases es with
        | nil => exact h.elim
        | cons e es =>
          refine ⟨?_, ih h.2⟩
          have h1 := h.1
          cases a with
          | x d => exact h1
          | v d => exact h1.imp id fun ⟨k, a, b, _⟩ => ⟨k, a, b, .inl rfl⟩
          | deal row t => exact h1
    exact this ha
  have rel := rel_start k (ck := none) (m := m) ⟨Nat.le_refl _, fun _ _ _ => rfl, fun _ h => nomatch h⟩ ha'
  rw [hs] at rel
  obtain ⟨⟨fl, ρ', m'⟩, h1, e', h2, h3, h4⟩ := h m _ m rel r q
  have h2 : fl = _ := h2
  subst h2
  unfold fnD
  rw [if_pos (by rw [← ha.length]; exact hn), h1]
  show fin m.length m' e' = _
  rw [fin_eq h4, take_base h3]
theorem fd_body {n k : Nat} {body : Sx} {as : List AV} {R : Type} {e : R → D} {c : Int} {t : Option (R × Int)} {s : List Sl} (hn : as.length = n) (hs : as.map slotOf ++ List.replicate k .any = s) (h : Sk body s (some c) (fun r => .rt (e r.1) (some r.2)) t) : Fd (fnD n k body) as e c t := by
  intro m es h0 ha r c' q
  have hl : 0 < m.length := (List.getElem?_eq_some_iff.mp h0).1
  have rel := rel_start k (ck := some c) (m := m) ⟨Nat.le_refl _, fun _ _ _ => rfl, fun c2 h => by cases h; exact ⟨hl, h0⟩⟩ ha
  rw [hs] at rel
  obtain ⟨⟨fl, ρ', m'⟩, h1, e', h2, h3, h4⟩ := h m _ m rel (r, c') q
  have h2 : fl = _ := h2
  subst h2
  unfold fnD
  rw [if_pos (by rw [← ha.length]; exact hn), h1]
  show fin m.length m' e' = _
  rw [fin_eq h4, take_baseD h3]
end
end TL
/-! TL5: operators of typed programs. -/
namespace TL
open PySem PySem.Spec L2 PL
set_option autoImplicit false
noncomputable section
section
variable {α β γ : Type} {e : α → D}
/-! numbers -/
theorem op_add (a b c : Int) (h : some (a + b) = some c) : opAdd (.int a) (.int b) = some (.int c) := by cases h; rfl
theorem op_sub (a b c : Int) (h : some (a - b) = some c) : opSub (.int a) (.int b) = some (.int c) := by cases h; rfl
@[irreducible] def smallM (n : Int) : Bool := sealB (-(2 ^ 64) < n ∧ n < 2 ^ 64)
theorem smallM_iff {n : Int} : smallM n = true ↔ -(2 ^ 64) < n ∧ n < 2 ^ 64 := by unfold smallM; exact sealB_iff
def mulG (a b : Int) : Option Int := if smallM a = true ∨ smallM b = true then some (a * b) else none
theorem op_mul (a b c : Int) (h : mulG a b = some c) : opMulA (.int a) (.int b) = some (.int c) := by
  unfold mulG at h
  split at h
  · rename_i z
    cases h
    exact if_pos (okP_true (z.imp smallM_iff.mp smallM_iff.mp))
  · cases h
theorem mulG_l {a b : Int} (h : -(2 ^ 64) < a ∧ a < 2 ^ 64) : mulG a b = some (a * b) := if_pos (.inl (smallM_iff.mpr h))
theorem mulG_r {a b : Int} (h : -(2 ^ 64) < b ∧ b < 2 ^ 64) : mulG a b = some (a * b) := if_pos (.inr (smallM_iff.mpr h))
@[irreducible] def divOk (n : Int) : Bool := sealB (0 < n ∧ n < 1073741824)
theorem divOk_iff {n : Int} : divOk n = true ↔ 0 < n ∧ n < 1073741824 := by unfold divOk; exact sealB_iff
def divG (a b : Int) : Option Int := if divOk b = true then some (a / b) else none
theorem op_div (a b c : Int) (h : divG a b = some c) : opDiv (.int a) (.int b) = some (.int c) := by
  unfold divG at h
  split at h
  · rename_i z
    cases h
    exact if_pos (divOk_iff.mp z)
  · cases h
theorem divG_eq {a b : Int} (h : 0 < b ∧ b < 1073741824) : divG a b = some (a / b) := if_pos (divOk_iff.mpr h)
def modG (a b : Int) : Option Int := if 0 < b then some (a % b) else none
theorem op_mod (a b c : Int) (h : modG a b = some c) : opMod (.int a) (.int b) = some (.int c) := by
  unfold modG at h
  split at h
  · rename_i z
    cases h
    exact if_pos z
  · cases h
theorem modG_eq {a b : Int} (h : 0 < b) : modG a b = some (a % b) := if_pos h
def powG (a b : Int) : Option Int := if (0 ≤ b ∧ b ≤ 1000) ∧ smallM a = true then some (a ^ b.toNat) else none
theorem op_pow (a b c : Int) (h : powG a b = some c) : opPow (.int a) (.int b) = some (.int c) := by
  unfold powG at h
  split at h
  · rename_i z
    cases h
    have := smallM_iff.mp z.2
    exact if_pos (okP_true ⟨z.1, by omega⟩)
  · cases h
theorem op_lt (a b : Int) (c : Bool) (h : some (decide (a < b)) = some c) : opLt (.int a) (.int b) = some (.bl c) := by cases h; rfl
theorem op_le (a b : Int) (c : Bool) (h : some (decide (a ≤ b)) = some c) : opLe (.int a) (.int b) = some (.bl c) := by cases h; rfl
theorem op_gt (a b : Int) (c : Bool) (h : some (decide (b < a)) = some c) : opGt (.int a) (.int b) = some (.bl c) := by cases h; rfl
theorem op_ge (a b : Int) (c : Bool) (h : some (decide (b ≤ a)) = some c) : opGe (.int a) (.int b) = some (.bl c) := by cases h; rfl
theorem op_max2 (a b c : Int) (h : some (max a b) = some c) : opMax2 (.int a) (.int b) = some (.int c) := by
  cases h
  show some (D.int (if b > a then b else a)) = _
  congr 2
  omega
theorem op_min2 (a b c : Int) (h : some (min a b) = some c) : opMin2 (.int a) (.int b) = some (.int c) := by
  cases h
  show some (D.int (if b < a then b else a)) = _
  congr 2
  omega
theorem op_neg (a c : Int) (h : some (-a) = some c) : opNeg (.int a) = some (.int c) := by cases h; rfl
def absI (a : Int) : Int := if a < 0 then -a else a
theorem op_abs (a c : Int) (h : some (absI a) = some c) : opAbs (.int a) = some (.int c) := by cases h; rfl
theorem op_int (a c : Int) (h : some a = some c) : opInt (.int a) = some (.int c) := by cases h; rfl
/-- a product with a small number -/
theorem ev_mulL {s : List Sl} {fa fb : Ex} {k : Int} {tb : Option Int} (hk : smallM k = true) (ha : Rv fa s D.int (some k)) (hb : Rv fb s D.int tb) : Ev (eBin (g2 opMulA) fa fb) s D.int (tb.bind fun b => some (k * b)) := by
  have := ev_bin (ec := D.int) (fun a b => mulG a b) op_mul ha hb
  have e : ∀ b, mulG k b = some (k * b) := fun b => if_pos (.inl hk)
  simp only [Option.bind_some, e] at this
  exact this
theorem ev_mulR {s : List Sl} {fa fb : Ex} {k : Int} {ta : Option Int} (hk : smallM k = true) (ha : Rv fa s D.int ta) (hb : Rv fb s D.int (some k)) : Ev (eBin (g2 opMulA) fa fb) s D.int (ta.bind fun a => some (a * k)) := by
  have := ev_bin (ec := D.int) (fun a b => mulG a b) op_mul ha hb
  have e : ∀ b, mulG b k = some (b * k) := fun b => if_pos (.inr hk)
  simp only [Option.bind_some, e] at this
  exact this
theorem ev_divR {s : List Sl} {fa fb : Ex} {k : Int} {ta : Option Int} (hk : divOk k = true) (ha : Rv fa s D.int ta) (hb : Rv fb s D.int (some k)) : Ev (eBin (g2 opDiv) fa fb) s D.int (ta.bind fun a => some (a / k)) := by
  have := ev_bin (ec := D.int) (fun a b => divG a b) op_div ha hb
  have e : ∀ b, divG b k = some (b / k) := fun b => if_pos hk
  simp only [Option.bind_some, e] at this
  exact this
theorem ev_modR {s : List Sl} {fa fb : Ex} {k : Int} {ta : Option Int} (hk : 0 < k) (ha : Rv fa s D.int ta) (hb : Rv fb s D.int (some k)) : Ev (eBin (g2 opMod) fa fb) s D.int (ta.bind fun a => some (a % k)) := by
  have := ev_bin (ec := D.int) (fun a b => modG a b) op_mod ha hb
  have e : ∀ b, modG b k = some (b % k) := fun b => if_pos hk
  simp only [Option.bind_some, e] at this
  exact this
/-! sequences -/
theorem op_catL (a b c : List α) (h : catG a b = some c) : opAdd (eL e a) (eL e b) = some (eL e c) := by
  obtain ⟨h1, rfl⟩ := catG_some h
  show (if (a.map e).length + (b.map e).length ≤ big then some (D.lst (a.map e ++ b.map e)) else none) = _
  rw [if_pos (by rw [List.length_map, List.length_map]; exact h1)]
  unfold eL
  rw [List.map_append]
theorem op_catT (a b c : List α) (h : catG a b = some c) : opAdd (eT e a) (eT e b) = some (eT e c) := by
  obtain ⟨h1, rfl⟩ := catG_some h
  show (if (a.map e).length + (b.map e).length ≤ big then some (D.tup (a.map e ++ b.map e)) else none) = _
  rw [if_pos (by rw [List.length_map, List.length_map]; exact h1)]
  unfold eT
  rw [List.map_append]
def strG (a b : Str) : Option Str := if fits (a.length + b.length) = true then some (a ++ b) else none
theorem op_catS (a b c : Str) (h : strG a b = some c) : opAdd (.str a) (.str b) = some (.str c) := by
  unfold strG at h
  split at h
  · rename_i z
    cases h
    exact if_pos (fits_big z)
  · cases h
theorem catG_eq {xs ys : List α} (h : xs.length + ys.length ≤ 1000000) : catG xs ys = some (xs ++ ys) := if_pos (fits_iff.mpr h)
theorem snoc_eq {xs : List α} {a : α} (h : xs.length + 1 ≤ 1000000) : snoc xs a = some (xs ++ [a]) := if_pos (fits_iff.mpr h)
theorem lstG_eq {xs : List α} (h : xs.length ≤ 1000000) : lstG xs = some xs := if_pos (fits_iff.mpr h)
theorem repG_eq {n : Int} {x : α} (h : -1000000 ≤ n ∧ n ≤ 1000000) : repG n x = some (List.replicate n.toNat x) := if_pos (small_iff.mpr h)
theorem rg_eq {n : Int} (h : -1000000 ≤ n ∧ n ≤ 1000000) : rg n = some (rgI 0 n.toNat) := if_pos (small_iff.mpr h)
theorem rg2_eq {a n : Int} (h : -1000000 ≤ a ∧ a ≤ 1000000 ∧ -1000000 ≤ n ∧ n ≤ 1000000) : rg2 a n = some (rgI a (n - a).toNat) := if_pos ⟨small_iff.mpr ⟨h.1, h.2.1⟩, small_iff.mpr h.2.2⟩
/-- xs * n -/
def rptG (xs : List α) (n : Int) : Option (List α) := if small n = true ∧ fits (xs.length * n.toNat) = true then some (List.replicate n.toNat xs).flatten else none
theorem op_rpt (a : List α) (n : Int) (c : List α) (h : rptG a n = some c) : opMulA (eL e a) (.int n) = some (eL e c) := by
  unfold rptG at h
  split at h
  · rename_i z
    cases h
    have z1 := small_iff.mp z.1
    have z2 := fits_big z.2
    show (if okP (-(2 ^ 63) ≤ n ∧ n < 2 ^ 63 ∧ (a.map e).length * n.toNat ≤ big) = true then some (D.lst (List.replicate n.toNat (a.map e)).flatten) else none) = _
    rw [if_pos (okP_true ⟨by omega, by omega, by rw [List.length_map]; exact z2⟩)]
    unfold eL
    rw [List.map_flatten, List.map_replicate]
  · cases h
def len {α : Type} (xs : List α) : Int := (xs.length : Int)
theorem op_lenL (a : List α) (c : Int) (h : some (len a) = some c) : opLen (eL e a) = some (.int c) := by
  cases h
  show some (D.int (a.map e).length) = _
  rw [List.length_map]; rfl
theorem op_lenT (a : List α) (c : Int) (h : some (len a) = some c) : opLen (eT e a) = some (.int c) := by
  cases h
  show some (D.int (a.map e).length) = _
  rw [List.length_map]; rfl
theorem op_lenD {κ : Type} {k : κ → Key} (a : List (κ × α)) (c : Int) (h : some (len a) = some c) : opLen (eDK k e a) = some (.int c) := by
  cases h
  show some (D.int (a.map _).length) = _
  rw [List.length_map]; rfl
theorem op_lenS (a : List Int) (c : Int) (h : some (len a) = some c) : opLen (.scr a) = some (.int c) := by cases h; rfl
theorem atI_mapE (xs : List α) (i : Int) : atI (xs.map e) i = (atI xs i).map e := atI_map e xs i
theorem op_ixL (a : List α) (i : Int) (c : α) (h : atI a i = some c) : opIx (eL e a) (.int i) = some (e c) := by
  show atI (a.map e) i = _
  rw [atI_mapE, h]; rfl
theorem op_ixT (a : List α) (i : Int) (c : α) (h : atI a i = some c) : opIx (eT e a) (.int i) = some (e c) := by
  show atI (a.map e) i = _
  rw [atI_mapE, h]; rfl
theorem op_ixS (a : List Int) (i : Int) (c : Int) (h : atI a i = some c) : opIx (.scr a) (.int i) = some (.int c) := by
  show (atI a i).map _ = _
  rw [h]; rfl
/-- p[0], p[1] of tuples of a fixed size -/
theorem ev_ixF {s : List Sl} {fa fb : Ex} {ea : α → D} {eb : β → D} {ta : Option α} (n : Int) (g : α → β) (h : ∀ a, opIx (ea a) (.int n) = some (eb (g a))) (ha : Rv fa s ea ta) (hb : Rv fb s D.int (some n)) : Ev (eBin gIx fa fb) s eb (ta.bind fun a => some (g a)) :=
  ev_ix (fun a _ => some (g a)) (eb := fun _ : Unit => .int n) (tb := some ()) (fun a b c q => by cases q; exact h a) ha (fun b ck ρ m r a q => hb b ck ρ m r n rfl)
theorem op_ix20 {ea : α → D} {eb : β → D} (p : α × β) : opIx (e2 ea eb p) (.int 0) = some (ea p.1) := rfl
theorem op_ix21 {ea : α → D} {eb : β → D} (p : α × β) : opIx (e2 ea eb p) (.int 1) = some (eb p.2) := rfl
theorem op_ix30 {ea : α → D} {eb : β → D} {ec : γ → D} (p : α × β × γ) : opIx (e3 ea eb ec p) (.int 0) = some (ea p.1) := rfl
theorem op_ix31 {ea : α → D} {eb : β → D} {ec : γ → D} (p : α × β × γ) : opIx (e3 ea eb ec p) (.int 1) = some (eb p.2.1) := rfl
theorem op_ix32 {ea : α → D} {eb : β → D} {ec : γ → D} (p : α × β × γ) : opIx (e3 ea eb ec p) (.int 2) = some (ec p.2.2) := rfl
/-- a pair of two of one type, by a number that is not known -/
def atP (p : α × α) (i : Int) : Option α := atI [p.1, p.2] i
theorem op_ixP (p : α × α) (i : Int) (c : α) (h : atP p i = some c) : opIx (e2 e e p) (.int i) = some (e c) := by
  show atI [e p.1, e p.2] i = _
  have := atI_mapE (e := e) [p.1, p.2] i
  unfold atP at h
  rw [h] at this
  exact this
/-! slices -/
def Ov (f : Ox) (s : List Sl) (t : Option (Option Int)) : Prop := ∀ b ck ρ m, Rel b ck s ρ m → ∀ a, t = some a → f ρ m = some (a, m)
theorem ov_none {s : List Sl} : Ov oNone s (some none) := fun b ck ρ m r a q => by cases q; rfl
theorem ov_some {s : List Sl} {f : Ex} {t : Option Int} (h : Rv f s D.int t) : Ov (oSome f) s (t.bind fun a => some (some a)) := fun b ck ρ m r a q => by
  obtain ⟨k, e1, q⟩ := bnd q
  cases q
  obtain ⟨x, h1, l1⟩ := h b ck ρ m r k e1
  show (f ρ m).bind _ = _
  rw [h1]
  show (intOf m x).bind _ = _
  have : intOf m x = some k := by unfold intOf; simp only [l1.look]
  rw [this]
  rfl
theorem cutD_mapE (xs : List α) (a b : Option Int) : cutD (xs.map e) a b = (cutD xs a b).map e := by
  unfold cutD
  rw [List.length_map, List.map_take, List.map_drop]
theorem ev_slL {s : List Sl} {f : Ex} {l h : Ox} {t : Option (List α)} {tl th : Option (Option Int)} (hf : Rv f s (eL e) t) (hl : Ov l s tl) (hh : Ov h s th) : Ev (eSl f l h) s (eL e) (t.bind fun xs => tl.bind fun a => th.bind fun b => some (cutD xs a b)) := fun b ck ρ m r c q => by
  obtain ⟨xs, e1, q⟩ := bnd q
  obtain ⟨a, e2, q⟩ := bnd q
  obtain ⟨b', e3, q⟩ := bnd q
  cases q
  obtain ⟨x, h1, l1⟩ := hf b ck ρ m r xs e1
  show (f ρ m).bind _ = _
  rw [h1]
  show (l ρ m).bind _ = _
  rw [hl b ck ρ m r a e2]
  show (h ρ m).bind _ = _
  rw [hh b ck ρ m r b' e3]
  show (look m x).bind _ = _
  rw [l1.look]
  show some (E.d (.lst (cutD (xs.map e) a b')), m) = _
  rw [cutD_mapE]
  rfl
theorem ev_slT {s : List Sl} {f : Ex} {l h : Ox} {t : Option (List α)} {tl th : Option (Option Int)} (hf : Rv f s (eT e) t) (hl : Ov l s tl) (hh : Ov h s th) : Ev (eSl f l h) s (eT e) (t.bind fun xs => tl.bind fun a => th.bind fun b => some (cutD xs a b)) := fun b ck ρ m r c q => by
  obtain ⟨xs, e1, q⟩ := bnd q
  obtain ⟨a, e2, q⟩ := bnd q
  obtain ⟨b', e3, q⟩ := bnd q
  cases q
  obtain ⟨x, h1, l1⟩ := hf b ck ρ m r xs e1
  show (f ρ m).bind _ = _
  rw [h1]
  show (l ρ m).bind _ = _
  rw [hl b ck ρ m r a e2]
  show (h ρ m).bind _ = _
  rw [hh b ck ρ m r b' e3]
  show (look m x).bind _ = _
  rw [l1.look]
  show some (E.d (.tup (cutD (xs.map e) a b')), m) = _
  rw [cutD_mapE]
  rfl
theorem op_revL (a c : List α) (h : some a.reverse = some c) : opRev (eL e a) = some (eL e c) := by
  cases h
  show some (D.lst (a.map e).reverse) = _
  rw [← List.map_reverse]; rfl
theorem op_revT (a c : List α) (h : some a.reverse = some c) : opRev (eT e a) = some (eT e c) := by
  cases h
  show some (D.tup (a.map e).reverse) = _
  rw [← List.map_reverse]; rfl
theorem op_tupL (a c : List α) (h : some a = some c) : opTuple (eL e a) = some (eT e c) := by cases h; rfl
theorem op_tupT (a c : List α) (h : some a = some c) : opTuple (eT e a) = some (eT e c) := by cases h; rfl
theorem op_lstL (a c : List α) (h : some a = some c) : opList (eL e a) = some (eL e c) := by cases h; rfl
theorem op_lstT (a c : List α) (h : some a = some c) : opList (eT e a) = some (eL e c) := by cases h; rfl
theorem op_max (a : List Int) (c : Int) (h : maxI a = some c) : opMax (eL D.int a) = some (.int c) := by
  show (intsOf (a.map .int)).bind _ = _
  rw [intsOf_map]
  show (maxI a).map D.int = _
  rw [h]; rfl
theorem op_min (a : List Int) (c : Int) (h : minI a = some c) : opMin (eL D.int a) = some (.int c) := by
  show (intsOf (a.map .int)).bind _ = _
  rw [intsOf_map]
  show (minI a).map D.int = _
  rw [h]; rfl
theorem op_sumL (a : List Int) (c : Int) (h : some a.sum = some c) : opSum (eL D.int a) = some (.int c) := by
  cases h
  show (intsOf (a.map .int)).map _ = _
  rw [intsOf_map]; rfl
theorem op_sumT (a : List Int) (c : Int) (h : some a.sum = some c) : opSum (eT D.int a) = some (.int c) := by
  cases h
  show (intsOf (a.map .int)).map _ = _
  rw [intsOf_map]; rfl
theorem op_sorted (a c : List Int) (h : some (srt a) = some c) : opSorted (eL D.int a) = some (eL D.int c) := by
  cases h
  show (intsOf (a.map .int)).map _ = _
  rw [intsOf_map]; rfl
@[irreducible] def setOk (n : Nat) : Bool := sealB (n ≤ 4000)
theorem setOk_iff {n : Nat} : setOk n = true ↔ n ≤ 4000 := by unfold setOk; exact sealB_iff
def dstG (a : List Int) : Option Int := if setOk a.length = true then some (len (distinct a)) else none
theorem op_lenSet (a : List Int) (c : Int) (h : dstG a = some c) : opLenSet (eL D.int a) = some (.int c) := by
  unfold dstG at h
  split at h
  · rename_i z
    cases h
    show (intsOf (a.map .int)).bind _ = _
    rw [intsOf_map]
    show (if a.length ≤ 4000 then _ else _) = _
    rw [if_pos (setOk_iff.mp z)]
    rfl
  · cases h
end
/-! ### is None -/
theorem op_isN {α : Type} {e : α → D} (hn : ∀ a, e a ≠ .non) (a : Option α) (b : Unit) (c : Bool) (h : some a.isNone = some c) : opIsN (eO e a) (eU b) = some (.bl c) := by
  cases h
  cases a with
  | none => rfl
  | some a =>
    have := hn a
    show opIsN (e a) .non = some (.bl false)
    cases q : e a <;> first | rfl | exact absurd q this
theorem op_notN {α : Type} {e : α → D} (hn : ∀ a, e a ≠ .non) (a : Option α) (b : Unit) (c : Bool) (h : some a.isSome = some c) : opNotN (eO e a) (eU b) = some (.bl c) := by
  cases h
  cases a with
  | none => rfl
  | some a =>
    have := hn a
    show opNotN (e a) .non = some (.bl true)
    cases q : e a <;> first | rfl | exact absurd q this
/-- where it can't be None -/
theorem op_isN0 {α : Type} {e : α → D} (hn : ∀ a, e a ≠ .non) (a : α) (b : Unit) (c : Bool) (h : some false = some c) : opIsN (e a) (eU b) = some (.bl c) := by
  cases h
  have := hn a
  cases q : e a <;> first | rfl | exact absurd q this
theorem op_notN0 {α : Type} {e : α → D} (hn : ∀ a, e a ≠ .non) (a : α) (b : Unit) (c : Bool) (h : some true = some c) : opNotN (e a) (eU b) = some (.bl c) := by
  cases h
  have := hn a
  cases q : e a <;> first | rfl | exact absurd q this
/-! ### equality, in -/
structure PyE {α : Type} (e : α → D) (k : Nat) : Prop where
  py : ∀ a, ∃ p, PL.py (e a) = some p
  dep : ∀ a, depD (e a) ≤ k
  inj : ∀ a b, e a = e b → a = b
theorem eqS_iff {x y : D} {b : Bool} (h : eqS x y = some b) : (b = true ↔ x = y) := by
  unfold eqS at h
  split at h <;> cases h <;> simp
theorem PyE.eq {α : Type} [DecidableEq α] {e : α → D} {k : Nat} (h : PyE e k) (hk : k ≤ 64 := by decide) (a b : α) : eqD (e a) (e b) = some (decide (a = b)) := by
  have hi : e a = e b ↔ a = b := ⟨h.inj a b, fun q => by rw [q]⟩
  unfold eqD
  cases q : eqS (e a) (e b) with
  | some x =>
    have := eqS_iff q
    show some x = _
    congr 1
    rw [Bool.eq_iff_iff, this, hi, decide_eq_true_iff]
  | none =>
    obtain ⟨p1, h1⟩ := h.py a
    obtain ⟨p2, h2⟩ := h.py b
    simp only [h1, h2]
    rw [if_pos ⟨Nat.le_trans (h.dep a) hk, Nat.le_trans (h.dep b) hk⟩]
    congr 1
    rw [Bool.eq_iff_iff, decide_eq_true_iff, hi, decide_eq_true_iff]
theorem str_eqE (a b : Str) : eqD (.str a) (.str b) = some (decide (a = b)) := rfl
theorem pys_map {α : Type} {e : α → D} (h : ∀ a, ∃ p, py (e a) = some p) : ∀ xs : List α, ∃ ps, pys (xs.map e) = some ps
  | [] => ⟨[], rfl⟩
  | x :: xs => by
    obtain ⟨p, h1⟩ := h x
    obtain ⟨ps, h2⟩ := pys_map h xs
    refine ⟨p :: ps, ?_⟩
    show (py (e x)).bind _ = _
    rw [h1]
    show ((pys (xs.map e)).map _) = _
    rw [h2]; rfl
theorem depDs_map {α : Type} {e : α → D} {k : Nat} (h : ∀ a, depD (e a) ≤ k) : ∀ xs : List α, depDs (xs.map e) ≤ k
  | [] => Nat.zero_le _
  | x :: xs => by
    show max _ _ ≤ k
    exact Nat.max_le.mpr ⟨h x, depDs_map h xs⟩
theorem map_inj {α β : Type} {e : α → β} (h : ∀ a b, e a = e b → a = b) : ∀ xs ys : List α, xs.map e = ys.map e → xs = ys
  | [], [], _ => rfl
  | x :: xs, y :: ys, q => by
    rw [List.map_cons, List.map_cons] at q
    obtain ⟨q1, q2⟩ := List.cons.inj q
    rw [h x y q1, map_inj h xs ys q2]
  | [], _ :: _, q => by cases q
  | _ :: _, [], q => by cases q
section
variable {α β γ δ : Type} {e : α → D} {f : β → D} {g : γ → D} {h' : δ → D} {k l n : Nat}
theorem pyE_int : PyE D.int 0 := ⟨fun a => ⟨_, rfl⟩, fun a => Nat.le_refl _, fun a b q => by cases q; rfl⟩
theorem pyE_unit : PyE eU 0 := ⟨fun a => ⟨_, rfl⟩, fun a => Nat.le_refl _, fun a b q => rfl⟩
theorem pyE_O (h : PyE e k) (hn : ∀ a, e a ≠ .non) : PyE (eO e) k := ⟨fun a => by
    cases a with
    | none => exact ⟨_, rfl⟩
    | some a => exact h.py a, fun a => by
    cases a with
    | none => exact Nat.zero_le _
    | some a => exact h.dep a, fun a b q => by
    cases a with
    | none => cases b with
      | none => rfl
      | some b => exact absurd q.symm (hn b)
    | some a => cases b with
      | none => exact absurd q (hn a)
      | some b => rw [h.inj a b q]⟩
theorem pyE_L (h : PyE e k) : PyE (eL e) (k + 1) := ⟨fun a => by
    obtain ⟨ps, q⟩ := pys_map h.py a
    exact ⟨.list ps, by show (pys (a.map e)).map _ = _; rw [q]; rfl⟩, fun a => Nat.succ_le_succ (depDs_map h.dep a), fun a b q => map_inj h.inj a b (by injection q)⟩
theorem pyE_T (h : PyE e k) : PyE (eT e) (k + 1) := ⟨fun a => by
    obtain ⟨ps, q⟩ := pys_map h.py a
    exact ⟨.tuple ps, by show (pys (a.map e)).map _ = _; rw [q]; rfl⟩, fun a => Nat.succ_le_succ (depDs_map h.dep a), fun a b q => map_inj h.inj a b (by injection q)⟩
theorem pyE_2 (h1 : PyE e k) (h2 : PyE f l) : PyE (e2 e f) (max k l + 1) := ⟨fun a => by
    obtain ⟨p1, q1⟩ := h1.py a.1
    obtain ⟨p2, q2⟩ := h2.py a.2
    exact ⟨.tuple [p1, p2], by simp [e2, py, pys, q1, q2]⟩, fun a => by
    have := h1.dep a.1
    have := h2.dep a.2
    simp only [e2, depD, depDs]
    omega, fun a b q => by
    simp only [e2] at q
    injection q with q
    injection q with q1 q
    injection q with q2 _
    exact Prod.ext (h1.inj _ _ q1) (h2.inj _ _ q2)⟩
theorem pyE_3 (h1 : PyE e k) (h2 : PyE f l) (h3 : PyE g n) : PyE (e3 e f g) (max k (max l n) + 1) := ⟨fun a => by
    obtain ⟨p1, q1⟩ := h1.py a.1
    obtain ⟨p2, q2⟩ := h2.py a.2.1
    obtain ⟨p3, q3⟩ := h3.py a.2.2
    exact ⟨.tuple [p1, p2, p3], by simp [e3, py, pys, q1, q2, q3]⟩, fun a => by
    have := h1.dep a.1
    have := h2.dep a.2.1
    have := h3.dep a.2.2
    simp only [e3, depD, depDs]
    omega, fun a b q => by
    simp only [e3] at q
    injection q with q
    injection q with q1 q
    injection q with q2 q
    injection q with q3 _
    exact Prod.ext (h1.inj _ _ q1) (Prod.ext (h2.inj _ _ q2) (h3.inj _ _ q3))⟩
theorem op_eq [DecidableEq α] (he : ∀ a b, eqD (e a) (e b) = some (decide (a = b))) (a b : α) (c : Bool) (h : some (decide (a = b)) = some c) : opEqA (e a) (e b) = some (.bl c) := by
  cases h
  unfold opEqA
  rw [he]; rfl
theorem op_ne [DecidableEq α] (he : ∀ a b, eqD (e a) (e b) = some (decide (a = b))) (a b : α) (c : Bool) (h : some (!decide (a = b)) = some c) : opNeA (e a) (e b) = some (.bl c) := by
  cases h
  unfold opNeA
  rw [he]; rfl
theorem bl_eqE (a b : Bool) : eqD (.bl a) (.bl b) = some (decide (a = b)) := rfl
/-- of things whose type is not known -/
theorem op_eqD (a : α) (b : β) (c : Bool) (h : eqD (e a) (f b) = some c) : opEqA (e a) (f b) = some (.bl c) := by
  unfold opEqA; rw [h]; rfl
theorem op_neD (a : α) (b : β) (c : Bool) (h : (eqD (e a) (f b)).map (!·) = some c) : opNeA (e a) (f b) = some (.bl c) := by
  unfold opNeA
  cases q : eqD (e a) (f b) with
  | none => rw [q] at h; cases h
  | some x => rw [q] at h; cases h; rfl
theorem inD_eq [DecidableEq α] (h : PyE e k) (hk : k + 1 ≤ 64 := by decide) (a : α) (xs : List α) : inD (e a) (eL e xs) = some (decide (a ∈ xs)) := by
  unfold inD
  show (some (xs.map e)).bind _ = _
  obtain ⟨p1, h1⟩ := h.py a
  obtain ⟨p2, h2⟩ := (pyE_L h).py xs
  rw [Option.bind_some]
  simp only [h1, h2]
  have := h.dep a
  have := (pyE_L h).dep xs
  rw [if_pos ⟨by omega, by omega⟩]
  congr 1
  rw [Bool.eq_iff_iff, decide_eq_true_iff, decide_eq_true_iff, List.mem_map]
  exact ⟨fun ⟨x, hx, q⟩ => by rw [← h.inj _ _ q]; exact hx, fun q => ⟨a, q, rfl⟩⟩
theorem inD_eqT [DecidableEq α] (h : PyE e k) (hk : k + 1 ≤ 64 := by decide) (a : α) (xs : List α) : inD (e a) (eT e xs) = some (decide (a ∈ xs)) := by
  unfold inD
  show (some (xs.map e)).bind _ = _
  obtain ⟨p1, h1⟩ := h.py a
  obtain ⟨p2, h2⟩ := (pyE_T h).py xs
  rw [Option.bind_some]
  simp only [h1, h2]
  have := h.dep a
  have := (pyE_T h).dep xs
  rw [if_pos ⟨by omega, by omega⟩]
  congr 1
  rw [Bool.eq_iff_iff, decide_eq_true_iff, decide_eq_true_iff, List.mem_map]
  exact ⟨fun ⟨x, hx, q⟩ => by rw [← h.inj _ _ q]; exact hx, fun q => ⟨a, q, rfl⟩⟩
def memB {α : Type} [DecidableEq α] (a : α) (xs : List α) : Bool := decide (a ∈ xs)
theorem memB_iff {α : Type} [DecidableEq α] {a : α} {xs : List α} : memB a xs = true ↔ a ∈ xs := decide_eq_true_iff
theorem op_inL [DecidableEq α] (h : PyE e k) (hk : k + 1 ≤ 64 := by decide) (a : α) (xs : List α) (c : Bool) (q : some (memB a xs) = some c) : opIn (e a) (eL e xs) = some (.bl c) := by
  cases q; unfold opIn; rw [inD_eq h hk]; rfl
theorem op_inT [DecidableEq α] (h : PyE e k) (hk : k + 1 ≤ 64 := by decide) (a : α) (xs : List α) (c : Bool) (q : some (memB a xs) = some c) : opIn (e a) (eT e xs) = some (.bl c) := by
  cases q; unfold opIn; rw [inD_eqT h hk]; rfl
theorem op_ninL [DecidableEq α] (h : PyE e k) (hk : k + 1 ≤ 64 := by decide) (a : α) (xs : List α) (c : Bool) (q : some (!memB a xs) = some c) : opNotIn (e a) (eL e xs) = some (.bl c) := by
  cases q; unfold opNotIn; rw [inD_eq h hk]; rfl
theorem op_ninT [DecidableEq α] (h : PyE e k) (hk : k + 1 ≤ 64 := by decide) (a : α) (xs : List α) (c : Bool) (q : some (!memB a xs) = some c) : opNotIn (e a) (eT e xs) = some (.bl c) := by
  cases q; unfold opNotIn; rw [inD_eqT h hk]; rfl
/-- in a pair of two of one type -/
def inP {α : Type} [DecidableEq α] (a : α) (p : α × α) : Bool := decide (a = p.1 ∨ a = p.2)
theorem inP_mem {α : Type} [DecidableEq α] (a : α) (p : α × α) : decide (a ∈ [p.1, p.2]) = inP a p := by
  unfold inP
  rw [Bool.eq_iff_iff, decide_eq_true_iff, decide_eq_true_iff]
  simp
theorem op_inP [DecidableEq α] (h : PyE e k) (hk : k + 1 ≤ 64 := by decide) (a : α) (p : α × α) (c : Bool) (q : some (inP a p) = some c) : opIn (e a) (e2 e e p) = some (.bl c) := by
  cases q
  have := inD_eqT h hk a [p.1, p.2]
  unfold opIn
  rw [inP_mem] at this
  rw [show e2 e e p = eT e [p.1, p.2] from rfl, this]
  rfl
theorem op_ninP [DecidableEq α] (h : PyE e k) (hk : k + 1 ≤ 64 := by decide) (a : α) (p : α × α) (c : Bool) (q : some (!inP a p) = some c) : opNotIn (e a) (e2 e e p) = some (.bl c) := by
  cases q
  have := inD_eqT h hk a [p.1, p.2]
  unfold opNotIn
  rw [inP_mem] at this
  rw [show e2 e e p = eT e [p.1, p.2] from rfl, this]
  rfl
end
/-! ### coercions -/
def asI : D → Option Int
  | .int i => some i
  | _ => none
def asB : D → Option Bool
  | .bl i => some i
  | _ => none
def asS : D → Option Str
  | .str i => some i
  | _ => none
def asL : D → Option (List D)
  | .lst i => some i
  | _ => none
def asT : D → Option (List D)
  | .tup i => some i
  | _ => none
section
variable {s : List Sl} {f : Ex} {α : Type} {e : α → D}
theorem map_id_D (xs : List D) : xs.map id = xs := List.map_id xs
theorem ev_as {α : Type} {e : α → D} {as : D → Option α} (h : ∀ d a, as d = some a → e a = d) {t : Option D} (hf : Ev f s id t) : Ev f s e (t.bind as) := fun b ck ρ m r a q => by
  obtain ⟨d, h1, q⟩ := bnd q
  rw [hf b ck ρ m r d h1, h d a q]
  rfl
theorem asI_eq (d : D) (a : Int) (h : asI d = some a) : D.int a = d := by unfold asI at h; split at h <;> cases h; rfl
theorem asB_eq (d : D) (a : Bool) (h : asB d = some a) : D.bl a = d := by unfold asB at h; split at h <;> cases h; rfl
theorem asS_eq (d : D) (a : Str) (h : asS d = some a) : D.str a = d := by unfold asS at h; split at h <;> cases h; rfl
theorem asL_eq (d : D) (a : List D) (h : asL d = some a) : eL id a = d := by unfold asL at h; split at h <;> cases h; show D.lst (List.map id _) = _; rw [map_id_D]
theorem asT_eq (d : D) (a : List D) (h : asT d = some a) : eT id a = d := by unfold asT at h; split at h <;> cases h; show D.tup (List.map id _) = _; rw [map_id_D]
theorem ev_up {t : Option α} (hf : Ev f s e t) : Ev f s id (t.bind fun a => some (e a)) := fun b ck ρ m r a q => by
  obtain ⟨d, h1, q⟩ := bnd q
  cases q
  exact hf b ck ρ m r d h1
theorem rv_up {t : Option α} (hf : Rv f s e t) : Rv f s id (t.bind fun a => some (e a)) := fun b ck ρ m r a q => by
  obtain ⟨d, h1, q⟩ := bnd q
  cases q
  exact hf b ck ρ m r d h1
theorem ev_some {t : Option α} (hf : Ev f s e t) : Ev f s (eO e) (t.bind fun a => some (some a)) := fun b ck ρ m r a q => by
  obtain ⟨d, h1, q⟩ := bnd q
  cases q
  exact hf b ck ρ m r d h1
theorem ev_get {t : Option (Option α)} (hf : Ev f s (eO e) t) : Ev f s e (t.bind fun a => a) := fun b ck ρ m r a q => by
  obtain ⟨d, h1, q⟩ := bnd q
  subst q
  exact hf b ck ρ m r _ h1
theorem rv_get {t : Option (Option α)} (hf : Rv f s (eO e) t) : Rv f s e (t.bind fun a => a) := fun b ck ρ m r a q => by
  obtain ⟨d, h1, q⟩ := bnd q
  subst q
  exact hf b ck ρ m r _ h1
theorem ev_cast {β : Type} {e' : β → D} {t : Option α} (g : α → β) (h : ∀ a, e' (g a) = e a) (hf : Ev f s e t) : Ev f s e' (t.bind fun a => some (g a)) := fun b ck ρ m r a q => by
  obtain ⟨d, h1, q⟩ := bnd q
  cases q
  rw [h]
  exact hf b ck ρ m r d h1
theorem dv_cast {β : Type} {e' : β → D} {c : Int} {t : Option (α × Int)} (g : α → β) (h : ∀ a, e' (g a) = e a) (hf : Dv f s e c t) : Dv f s e' c (t.bind fun a => some (g a.1, a.2)) := fun b ρ m r a c' q => by
  obtain ⟨⟨d, c1⟩, h1, q⟩ := bnd q
  cases q
  rw [h]
  exact hf b ρ m r d c1 h1
end
/-! ### dicts -/
section
variable {κ α : Type} [DecidableEq κ]
def dgetL (xs : List (κ × α)) (k : κ) : Option α := (xs.find? fun p => decide (p.1 = k)).map (·.2)
def dhas (xs : List (κ × α)) (k : κ) : Bool := xs.any fun p => decide (p.1 = k)
def dput (xs : List (κ × α)) (k : κ) (v : α) : List (κ × α) := if dhas xs k = true then xs.map (fun p => if p.1 = k then (p.1, v) else p) else xs ++ [(k, v)]
def dputG (xs : List (κ × α)) (k : κ) (v : α) : Option (List (κ × α)) := if fits (xs.length + 1) = true then some (dput xs k v) else none
def ddelG (xs : List (κ × α)) (k : κ) : Option (List (κ × α)) := if dhas xs k = true then some (xs.filter fun p => decide (p.1 ≠ k)) else none
variable {κ' : Type} [DecidableEq κ'] {kf : κ → κ'} {e : α → D}
theorem valD_map (hk : ∀ a b, kf a = kf b → a = b) (k : κ) : ∀ xs : List (κ × α), valD (xs.map fun p => (kf p.1, e p.2)) (kf k) = (dgetL xs k).map e
  | [] => rfl
  | p :: xs => by
    have ih := valD_map hk k xs
    unfold valD dgetL at ih ⊢
    rw [List.map_cons, List.find?_cons, List.find?_cons]
    by_cases h : p.1 = k
    · rw [decide_eq_true h, decide_eq_true (by rw [h])]; rfl
    · rw [decide_eq_false h, decide_eq_false (fun z => h (hk _ _ z))]; exact ih
theorem dhas_get (xs : List (κ × α)) (k : κ) : (dgetL xs k).isSome = dhas xs k := by
  unfold dgetL dhas
  rw [Option.isSome_map, Bool.eq_iff_iff, List.find?_isSome, List.any_eq_true]
theorem any_map (hk : ∀ a b, kf a = kf b → a = b) (k : κ) (xs : List (κ × α)) : ((xs.map fun p => (kf p.1, e p.2)).any fun kv => decide (kv.1 = kf k)) = dhas xs k := by
  unfold dhas
  rw [List.any_map]
  congr 1
  funext p
  show decide (kf p.1 = kf k) = _
  rw [Bool.eq_iff_iff, decide_eq_true_iff, decide_eq_true_iff]
  exact ⟨hk _ _, fun q => by rw [q]⟩
theorem putD_map (hk : ∀ a b, kf a = kf b → a = b) (k : κ) (v : α) (xs : List (κ × α)) : putD (xs.map fun p => (kf p.1, e p.2)) (kf k) (e v) = (dput xs k v).map fun p => (kf p.1, e p.2) := by
  unfold putD dput
  rw [any_map hk]
  by_cases h : dhas xs k = true
  · rw [if_pos h, if_pos h, List.map_map, List.map_map]
    refine List.map_congr_left fun p _ => ?_
    show (if kf p.1 = kf k then (kf p.1, e v) else (kf p.1, e p.2)) = (kf (if p.1 = k then (p.1, v) else p).1, e (if p.1 = k then (p.1, v) else p).2)
    by_cases q : p.1 = k
    · rw [if_pos (by rw [q]), if_pos q]
    · rw [if_neg (fun z => q (hk _ _ z)), if_neg q]
  · rw [if_neg h, if_neg h, List.map_append]
    rfl
theorem dropD_map (hk : ∀ a b, kf a = kf b → a = b) (k : κ) (xs : List (κ × α)) : dropD (xs.map fun p => (kf p.1, e p.2)) (kf k) = (xs.filter fun p => decide (p.1 ≠ k)).map fun p => (kf p.1, e p.2) := by
  unfold dropD
  rw [List.filter_map]
  congr 1
  refine List.filter_congr fun p _ => ?_
  show decide (kf p.1 ≠ kf k) = decide (p.1 ≠ k)
  rw [Bool.eq_iff_iff, decide_eq_true_iff, decide_eq_true_iff]
  exact ⟨fun z q => z (by rw [q]), fun z q => z (hk _ _ q)⟩
theorem dputG_eq {xs : List (κ × α)} {k : κ} {v : α} (h : xs.length + 1 ≤ 1000000) : dputG xs k v = some (dput xs k v) := if_pos (fits_iff.mpr h)
end
theorem kI_inj (a b : Int) (h : kI a = kI b) : a = b := by unfold kI at h; cases h; rfl
theorem kS_inj (a b : Str) (h : kS a = kS b) : a = b := by unfold kS at h; cases h; rfl
def kTI (xs : List Int) : List Key := xs.map kI
theorem kTI_inj (a b : List Int) (h : kTI a = kTI b) : a = b := map_inj kI_inj a b h
def kPI (p : Int × Int) : List Key := [kI p.1, kI p.2]
theorem kPI_inj (a b : Int × Int) (h : kPI a = kPI b) : a = b := by
  unfold kPI at h
  injection h with h1 h
  injection h with h2 _
  exact Prod.ext (kI_inj _ _ h1) (kI_inj _ _ h2)
theorem keyOf_int (a : Int) : keyOf (.int a) = some (kI a) := rfl
theorem keyOf_str (a : Str) : keyOf (.str a) = some (kS a) := rfl
theorem keysOf_ints : ∀ xs : List Int, keysOf (xs.map D.int) = some (kTI xs)
  | [] => rfl
  | x :: xs => by
    show (some (kI x)).bind _ = _
    rw [Option.bind_some, keysOf_ints xs]
    rfl
theorem keyT_ints (a : List Int) : keyT (eT D.int a) = some (kTI a) := keysOf_ints a
theorem keyT_pair (a : Int × Int) : keyT (e2 D.int D.int a) = some (kPI a) := rfl
section
variable {s : List Sl} {ck : Option Int} {τ κ α β : Type} [DecidableEq κ] {k : κ → Key} {kt : κ → List Key} {e : α → D} {ek : κ → D} {fo fi fv : Ex} {g : Sx} {out : τ → Out} {td : Option (List (κ × α))} {ti : Option κ} {tv : Option α}
theorem dget_K (hk : ∀ a, keyOf (ek a) = some (k a)) (hi : ∀ a b, k a = k b → a = b) (d : List (κ × α)) (i : κ) : dget (eDK k e d) (ek i) = some ((dgetL d i).map e) := by
  show (keyOf (ek i)).map _ = _
  rw [hk]
  show some (valD _ (k i)) = _
  rw [valD_map hi]
theorem dget_T (hk : ∀ a, keyT (ek a) = some (kt a)) (hi : ∀ a b, kt a = kt b → a = b) (d : List (κ × α)) (i : κ) : dget (eDT kt e d) (ek i) = some ((dgetL d i).map e) := by
  show (keyT (ek i)).map _ = _
  rw [hk]
  show some (valD _ (kt i)) = _
  rw [valD_map hi]
variable {ed : List (κ × α) → D}
theorem ev_getD (hg : ∀ d i, dget (ed d) (ek i) = some ((dgetL d i).map e)) (ho : Rv fo s ed td) (hi : Rv fi s ek ti) : Ev (eGetD fo fi) s e (td.bind fun d => ti.bind fun i => dgetL d i) := fun b ck ρ m r c q => by
  obtain ⟨d, e1, q⟩ := bnd q
  obtain ⟨i, e2, q⟩ := bnd q
  obtain ⟨x, h1, l1⟩ := ho b ck ρ m r d e1
  obtain ⟨y, h2, l2⟩ := hi b ck ρ m r i e2
  show (fo ρ m).bind _ = _
  rw [h1]
  show (fi ρ m).bind _ = _
  rw [h2]
  show (look m x).bind _ = _
  rw [l1.look]
  show (look m y).bind _ = _
  rw [l2.look]
  show (dget (ed d) (ek i)).bind _ = _
  rw [hg, q]
  rfl
theorem ev_inD (hg : ∀ d i, dget (ed d) (ek i) = some ((dgetL d i).map e)) (hi : Rv fi s ek ti) (ho : Rv fo s ed td) : Ev (eInD fi fo) s D.bl (ti.bind fun i => td.bind fun d => some (dhas d i)) := fun b ck ρ m r c q => by
  obtain ⟨i, e2, q⟩ := bnd q
  obtain ⟨d, e1, q⟩ := bnd q
  cases q
  obtain ⟨x, h1, l1⟩ := ho b ck ρ m r d e1
  obtain ⟨y, h2, l2⟩ := hi b ck ρ m r i e2
  show (fi ρ m).bind _ = _
  rw [h2]
  show (fo ρ m).bind _ = _
  rw [h1]
  show (look m x).bind _ = _
  rw [l1.look]
  show (look m y).bind _ = _
  rw [l2.look]
  show (dget (ed d) (ek i)).bind _ = _
  rw [hg]
  show some (E.d (.bl ((dgetL d i).map e).isSome), m) = _
  rw [Option.isSome_map, dhas_get]
theorem ev_ninD (hg : ∀ d i, dget (ed d) (ek i) = some ((dgetL d i).map e)) (hi : Rv fi s ek ti) (ho : Rv fo s ed td) : Ev (eNotInD fi fo) s D.bl (ti.bind fun i => td.bind fun d => some (!dhas d i)) := fun b ck ρ m r c q => by
  obtain ⟨i, e2, q⟩ := bnd q
  obtain ⟨d, e1, q⟩ := bnd q
  cases q
  obtain ⟨x, h1, l1⟩ := ho b ck ρ m r d e1
  obtain ⟨y, h2, l2⟩ := hi b ck ρ m r i e2
  show (fi ρ m).bind _ = _
  rw [h2]
  show (fo ρ m).bind _ = _
  rw [h1]
  show (look m x).bind _ = _
  rw [l1.look]
  show (look m y).bind _ = _
  rw [l2.look]
  show (dget (ed d) (ek i)).bind _ = _
  rw [hg]
  show some (E.d (.bl !((dgetL d i).map e).isSome), m) = _
  rw [Option.isSome_map, dhas_get]
/-- d[k] = v -/
theorem seqPut_eq {i : Nat} {ρ : Rho} {m m' : Store} {f : Sx} (h : f ρ m = some (.nx, ρ, m')) : sSeq f g ρ m = g ρ m' := by
  show (f ρ m).bind _ = _
  rw [h]
  rfl
theorem dputG_some {xs ys : List (κ × α)} {j : κ} {v : α} (h : dputG xs j v = some ys) : xs.length < big ∧ ys = dput xs j v := by
  unfold dputG at h
  split at h
  · rename_i z; cases h; exact ⟨fits_big z, rfl⟩
  · cases h
theorem sk_putD (i : Nat) {xs : List (κ × α)} {S1 : List (κ × α) → List Sl} {T : List (κ × α) → Option τ} (hk : ∀ a, keyOf (ek a) = some (k a)) (hj : ∀ a b, k a = k b → a = b) (ho : s[i]? = some (.own (oDK k e xs))) (hv : Ev fv s e tv) (hi : Rv fi s ek ti) (hs : ∀ ys, s.set i (.own (oDK k e ys)) = S1 ys) (hT : ∀ ys, Sk g (S1 ys) ck out (T ys)) :
    Sk (sSeq (sPutD (eV i) fi fv) g) s ck out (tv.bind fun v => ti.bind fun j => (dputG xs j v).bind T) := fun b ρ m r o q => by
  obtain ⟨v, h1, q⟩ := bnd q
  obtain ⟨j, h2, q⟩ := bnd q
  obtain ⟨ys, h3, q⟩ := bnd q
  obtain ⟨hb, rfl⟩ := dputG_some h3
  obtain ⟨c, g1, g2, g3, g4, g5, g6⟩ := r.own ho
  obtain ⟨y, e2, l2⟩ := hi b ck ρ m r j h2
  rw [seqPut_eq (i := i) (m' := m.set c (oDK k e (dput xs j v)))]
  · have := g5 (oDK k e (dput xs j v))
    rw [hs] at this
    exact hT _ b _ _ this o q
  · show (fv ρ m).bind _ = _
    rw [hv b ck ρ m r v h1]
    show (eV i ρ m).bind _ = _
    rw [eV_eq g1]
    show (fi ρ m).bind _ = _
    rw [e2]
    show (look m y).bind _ = _
    rw [l2.look]
    show (match m[c]? with | some (.dic kvs) => _ | some (.dicT kvs) => _ | _ => none) = _
    rw [g2]
    show (keyOf (ek j)).bind _ = _
    rw [hk]
    show (if (xs.map _).length < big then some (Fl.nx, ρ, m.set c (.dic (putD (xs.map fun p => (k p.1, e p.2)) (k j) (e v)))) else none) = _
    rw [if_pos (by rw [List.length_map]; exact hb), putD_map hj]
    rfl
theorem sk_putDT (i : Nat) {xs : List (κ × α)} {S1 : List (κ × α) → List Sl} {T : List (κ × α) → Option τ} (hk : ∀ a, keyT (ek a) = some (kt a)) (hj : ∀ a b, kt a = kt b → a = b) (ho : s[i]? = some (.own (oDT kt e xs))) (hv : Ev fv s e tv) (hi : Rv fi s ek ti) (hs : ∀ ys, s.set i (.own (oDT kt e ys)) = S1 ys) (hT : ∀ ys, Sk g (S1 ys) ck out (T ys)) :
    Sk (sSeq (sPutD (eV i) fi fv) g) s ck out (tv.bind fun v => ti.bind fun j => (dputG xs j v).bind T) := fun b ρ m r o q => by
  obtain ⟨v, h1, q⟩ := bnd q
  obtain ⟨j, h2, q⟩ := bnd q
  obtain ⟨ys, h3, q⟩ := bnd q
  obtain ⟨hb, rfl⟩ := dputG_some h3
  obtain ⟨c, g1, g2, g3, g4, g5, g6⟩ := r.own ho
  obtain ⟨y, e2, l2⟩ := hi b ck ρ m r j h2
  rw [seqPut_eq (i := i) (m' := m.set c (oDT kt e (dput xs j v)))]
  · have := g5 (oDT kt e (dput xs j v))
    rw [hs] at this
    exact hT _ b _ _ this o q
  · show (fv ρ m).bind _ = _
    rw [hv b ck ρ m r v h1]
    show (eV i ρ m).bind _ = _
    rw [eV_eq g1]
    show (fi ρ m).bind _ = _
    rw [e2]
    show (look m y).bind _ = _
    rw [l2.look]
    show (match m[c]? with | some (.dic kvs) => _ | some (.dicT kvs) => _ | _ => none) = _
    rw [g2]
    show (keyT (ek j)).bind _ = _
    rw [hk]
    show (if (xs.map _).length < big then some (Fl.nx, ρ, m.set c (.dicT (putD (xs.map fun p => (kt p.1, e p.2)) (kt j) (e v)))) else none) = _
    rw [if_pos (by rw [List.length_map]; exact hb), putD_map hj]
    rfl
theorem sk_delD (i : Nat) {xs : List (κ × α)} {S1 : List (κ × α) → List Sl} {T : List (κ × α) → Option τ} (hk : ∀ a, keyOf (ek a) = some (k a)) (hj : ∀ a b, k a = k b → a = b) (ho : s[i]? = some (.own (oDK k e xs))) (hi : Rv fi s ek ti) (hs : ∀ ys, s.set i (.own (oDK k e ys)) = S1 ys) (hT : ∀ ys, Sk g (S1 ys) ck out (T ys)) :
    Sk (sSeq (sDelD (eV i) fi) g) s ck out (ti.bind fun j => (ddelG xs j).bind T) := fun b ρ m r o q => by
  obtain ⟨j, h2, q⟩ := bnd q
  obtain ⟨ys, h3, q⟩ := bnd q
  unfold ddelG at h3
  split at h3
  · rename_i z
    cases h3
    obtain ⟨c, g1, g2, g3, g4, g5, g6⟩ := r.own ho
    obtain ⟨y, e2, l2⟩ := hi b ck ρ m r j h2
    rw [seqPut_eq (i := i) (m' := m.set c (oDK k e (xs.filter fun p => decide (p.1 ≠ j))))]
    · have := g5 (oDK k e (xs.filter fun p => decide (p.1 ≠ j)))
      rw [hs] at this
      exact hT _ b _ _ this o q
    · show (eV i ρ m).bind _ = _
      rw [eV_eq g1]
      show (fi ρ m).bind _ = _
      rw [e2]
      show (look m y).bind _ = _
      rw [l2.look]
      show (match m[c]? with | some (.dic kvs) => _ | _ => none) = _
      rw [g2]
      show (keyOf (ek j)).bind _ = _
      rw [hk]
      show (if (valD (xs.map fun p => (k p.1, e p.2)) (k j)).isSome = true then some (Fl.nx, ρ, m.set c (.dic (dropD (xs.map fun p => (k p.1, e p.2)) (k j)))) else none) = _
      rw [valD_map hj, Option.isSome_map, dhas_get, if_pos z, dropD_map hj]
      rfl
  · cases h3
/-- xs[i] = v -/
def putI {α : Type} (xs : List α) (i : Int) (v : α) : Option (List α) := (ixN xs.length i).map fun j => xs.set j v
theorem sk_putL (i : Nat) {xs : List α} {ti : Option Int} {S1 : List α → List Sl} {T : List α → Option τ} (ho : s[i]? = some (.own (oL e xs))) (hv : Ev fv s e tv) (hi : Rv fi s D.int ti) (hs : ∀ ys, s.set i (.own (oL e ys)) = S1 ys) (hT : ∀ ys, Sk g (S1 ys) ck out (T ys)) :
    Sk (sSeq (sPutL (eV i) fi fv) g) s ck out (tv.bind fun v => ti.bind fun j => (putI xs j v).bind T) := fun b ρ m r o q => by
  obtain ⟨v, h1, q⟩ := bnd q
  obtain ⟨j, h2, q⟩ := bnd q
  obtain ⟨ys, h3, q⟩ := bnd q
  obtain ⟨n, h4, rfl⟩ := Option.map_eq_some_iff.mp h3
  obtain ⟨c, g1, g2, g3, g4, g5, g6⟩ := r.own ho
  obtain ⟨y, e2, l2⟩ := hi b ck ρ m r j h2
  rw [seqPut_eq (i := i) (m' := m.set c (oL e (xs.set n v)))]
  · have := g5 (oL e (xs.set n v))
    rw [hs] at this
    exact hT _ b _ _ this o q
  · show (fv ρ m).bind _ = _
    rw [hv b ck ρ m r v h1]
    show (eV i ρ m).bind _ = _
    rw [eV_eq g1]
    show (fi ρ m).bind _ = _
    rw [e2]
    show (intOf m y).bind _ = _
    have : intOf m y = some j := by unfold intOf; simp only [l2.look]
    rw [this]
    show (cellL m c).bind _ = _
    rw [cellL_of (show m[c]? = some (.lst (xs.map e)) from g2)]
    show (ixN (xs.map e).length j).bind _ = _
    rw [List.length_map, h4]
    show some (Fl.nx, ρ, m.set c (.lst ((xs.map e).set n (e v)))) = _
    rw [show oL e (xs.set n v) = .lst ((xs.map e).set n (e v)) by unfold oL; rw [List.map_set]]
end
/-! ### count, index -/
theorem ev_count {s : List Sl} {fx fe : Ex} {tx : Option (List Int)} {te : Option Int} (hx : Rv fx s (eL D.int) tx) (he : Rv fe s D.int te) : Ev (eM2 opCount fx fe) s D.int (tx.bind fun xs => te.bind fun k => some (xs.count k : Int)) := fun b ck ρ m r c q => by
  obtain ⟨xs, e1, q⟩ := bnd q
  obtain ⟨k, e2, q⟩ := bnd q
  cases q
  obtain ⟨x, h1, l1⟩ := hx b ck ρ m r xs e1
  obtain ⟨y, h2, l2⟩ := he b ck ρ m r k e2
  show (fx ρ m).bind _ = _
  rw [h1]
  show (look m x).bind _ = _
  rw [l1.look]
  show (fe ρ m).bind _ = _
  rw [h2]
  show (look m x).bind _ = _
  rw [l1.look]
  show (look m y).bind _ = _
  rw [l2.look]
  show ((intsOf (xs.map .int)).map _).bind _ = _
  rw [intsOf_map]
  rfl
def idxG (xs : List Int) (k : Int) : Option Int := if k ∈ xs then some (xs.idxOf k : Int) else none
theorem ev_index {s : List Sl} {fx fe : Ex} {tx : Option (List Int)} {te : Option Int} (hx : Rv fx s (eL D.int) tx) (he : Rv fe s D.int te) : Ev (eM2 opIndex fx fe) s D.int (tx.bind fun xs => te.bind fun k => idxG xs k) := fun b ck ρ m r c q => by
  obtain ⟨xs, e1, q⟩ := bnd q
  obtain ⟨k, e2, q⟩ := bnd q
  obtain ⟨x, h1, l1⟩ := hx b ck ρ m r xs e1
  obtain ⟨y, h2, l2⟩ := he b ck ρ m r k e2
  show (fx ρ m).bind _ = _
  rw [h1]
  show (look m x).bind _ = _
  rw [l1.look]
  show (fe ρ m).bind _ = _
  rw [h2]
  show (look m x).bind _ = _
  rw [l1.look]
  show (look m y).bind _ = _
  rw [l2.look]
  show ((intsOf (xs.map .int)).bind _).bind _ = _
  rw [intsOf_map]
  show ((if k ∈ xs then some (D.int (xs.idxOf k : Nat)) else none).bind _) = _
  unfold idxG at q
  split at q
  · rename_i z; cases q; rw [if_pos z]; rfl
  · cases q
/-! ### list(range(n)), tuple(range(n)) -/
theorem ev_lrg {s : List Sl} {f : Ex} {t : Option Int} (h : Rv f s D.int t) : Ev (eListRg f) s (eL D.int) (t.bind rg) := fun b ck ρ m r xs q => by
  obtain ⟨k, e1, q⟩ := bnd q
  obtain ⟨x, e2, l2⟩ := h b ck ρ m r k e1
  unfold rg at q
  split at q
  · rename_i z
    cases q
    have z := small_iff.mp z
    have hb : (big : Int) = 1000000 := rfl
    show (f ρ m).bind _ = _
    rw [e2]
    show (intOf m x).bind _ = _
    have : intOf m x = some k := by unfold intOf; simp only [l2.look]
    rw [this]
    show (if okP (-(big : Int) ≤ k ∧ k ≤ (big : Int)) = true then some (E.d (.lst (rangeE 0 k.toNat)), m) else none) = _
    rw [if_pos (okP_true ⟨by omega, by omega⟩), rangeE_eq]
    rfl
  · cases q
theorem ev_trg {s : List Sl} {f : Ex} {t : Option Int} (h : Rv f s D.int t) : Ev (eTupRg f) s (eT D.int) (t.bind rg) := fun b ck ρ m r xs q => by
  obtain ⟨k, e1, q⟩ := bnd q
  obtain ⟨x, e2, l2⟩ := h b ck ρ m r k e1
  unfold rg at q
  split at q
  · rename_i z
    cases q
    have z := small_iff.mp z
    have hb : (big : Int) = 1000000 := rfl
    show (f ρ m).bind _ = _
    rw [e2]
    show (intOf m x).bind _ = _
    have : intOf m x = some k := by unfold intOf; simp only [l2.look]
    rw [this]
    show (if okP (-(big : Int) ≤ k ∧ k ≤ (big : Int)) = true then some (E.d (.tup (rangeE 0 k.toNat)), m) else none) = _
    rw [if_pos (okP_true ⟨by omega, by omega⟩), rangeE_eq]
    rfl
  · cases q
end
end TL
/-! TL6: the rules as printed. -/
namespace TL
open PySem PySem.Spec L2 PL
set_option autoImplicit false
noncomputable section
theorem bigK (k : Nat) (h : Nat.ble k 1000000 = true) : k ≤ big := Nat.le_of_ble_eq_true h
/-- slots forgotten (1), or read only from now on (2) -/
def roS : Sl → Sl
  | .val d => .lo d
  | .own o => .lo (lookO o)
  | s => s
def wkS : List Sl → List Nat → List Sl
  | a :: s, 0 :: bs => a :: wkS s bs
  | a :: s, 2 :: bs => roS a :: wkS s bs
  | _ :: s, _ :: bs => .any :: wkS s bs
  | s, _ => s
theorem wk_refl : ∀ s : List Sl, Wk s s
  | [] => .nil
  | a :: s => .cons .same (wk_refl s)
theorem wk_ro (a : Sl) : Wk1 a (roS a) := by
  cases a with
  | val d => exact .vlo
  | own o => exact .olo
  | _ => exact .same
theorem wk_of : ∀ (s : List Sl) (bs : List Nat), Wk s (wkS s bs)
  | [], _ => .nil
  | a :: s, [] => wk_refl _
  | a :: s, 0 :: bs => .cons .same (wk_of s bs)
  | a :: s, 1 :: bs => .cons .any (wk_of s bs)
  | a :: s, 2 :: bs => .cons (wk_ro a) (wk_of s bs)
  | a :: s, (_ + 3) :: bs => .cons .any (wk_of s bs)
/-- a statement of which nothing is said -/
def sFail : Sx := fun _ _ => none
def eFail : Ex := fun _ _ => none
section
variable {X : Cx} {st : Stmt} {ex : Expr}
theorem r_failS : PS X st (tS X.K sFail) := ⟨fun pins s σ H D I q => by
  obtain ⟨ρ, m, F, as, fl, ρ', m', env, hp, hf, q⟩ := q
  cases hf⟩
theorem r_failE : PE X ex (tE X.K eFail) := ⟨fun pins s σ H Q I q => by
  obtain ⟨ρ, m, F, as, e, m', env, hp, hf, q⟩ := q
  cases hf⟩
end
section
variable {s s' S1 : List Sl} {ck : Option Int} {c : Int} {τ α β σ γ : Type} {out : τ → Out} {e : α → D} {f g A B : Sx} {fe : Ex} {t : Option τ} {a : α}
theorem sk_fail : Sk (sSeq sFail g) s ck out none := sk_none
theorem sk_ret' (o : τ) (h : Ev fe s e (some a)) (ho : out o = .rt (e a) ck) : Sk (sSeq (sRet fe) g) s ck out (some o) := sk_ret (fun _ => o) (t := some ()) (e := fun _ => e a) (fun b ck ρ m r u q => h b ck ρ m r a rfl) (fun _ => ho)
theorem sk_set' (i : Nat) (h : Ev fe s e (some a)) (hs : s.set i (.val (e a)) = S1) (hk : Sk g S1 ck out t) : Sk (sSeq (sSet i fe) g) s ck out t :=
  sk_set i (t := some ()) (e := fun _ => e a) (T := fun _ => t) (S1 := fun _ => S1) (fun b ck ρ m r u q => h b ck ρ m r a rfl) (fun _ => hs) (fun _ => hk)
theorem sk_asg' {tg : Tg} (h : Ev fe s e (some a)) (ht : TgR tg (e a) s S1) (hk : Sk g S1 ck out t) : Sk (sSeq (sAsg fe tg) g) s ck out t :=
  sk_asg (t := some ()) (e := fun _ => e a) (T := fun _ => t) (S1 := fun _ => S1) (fun b ck ρ m r u q => h b ck ρ m r a rfl) (fun _ => ht) (fun _ => hk)
theorem sk_new' (i : Nat) {w : α → O} (h : Nv fe s w (some a)) (hs : s.set i (.own (w a)) = S1) (hk : Sk g S1 ck out t) : Sk (sSeq (sSet i fe) g) s ck out t :=
  sk_new i (t := some ()) (w := fun _ => w a) (T := fun _ => t) (S1 := fun _ => S1) (fun b ck ρ m r u q => h b ck ρ m r a rfl) (fun _ => hs) (fun _ => hk)
theorem sk_app' (i : Nat) {xs : List α} {S1 : List α → List Sl} {T : List α → Option τ} (ho : s[i]? = some (.own (oL e xs))) (h : Ev fe s e (some a)) (hs : ∀ ys, s.set i (.own (oL e ys)) = S1 ys) (hk : ∀ ys, Sk g (S1 ys) ck out (T ys)) : Sk (sSeq (sExp (eApp (eV i) fe)) g) s ck out ((snoc xs a).bind T) := sk_app i ho h hs hk
theorem sk_ext' (i : Nat) {xs ys : List α} {S1 : List α → List Sl} {T : List α → Option τ} (ho : s[i]? = some (.own (oL e xs))) (h : Ev fe s (eL e) (some ys)) (hs : ∀ ys, s.set i (.own (oL e ys)) = S1 ys) (hk : ∀ ys, Sk g (S1 ys) ck out (T ys)) : Sk (sSeq (sExp (eExt (eV i) fe)) g) s ck out ((catG xs ys).bind T) := sk_ext i ho h hs hk
theorem sk_if' {tt : Tx} {x : Bool} {ta tb : Option τ} (hc : Tv tt s (some x)) (ha : Sk (sSeq A g) s ck out ta) (hb : Sk (sSeq B g) s ck out tb) : Sk (sSeq (sIf tt A B) g) s ck out (if x = true then ta else tb) := sk_if hc ha hb
theorem sk_if0' {tt : Tx} {x : Bool} {ta tb : Option τ} (hc : Tv tt s (some x)) (ha : Sk A s ck out ta) (hb : Sk B s ck out tb) : Sk (sIf tt A B) s ck out (if x = true then ta else tb) := sk_if0 hc ha hb
theorem sk_forM' {it : Ix} {tg : Tg} {body : Sx} {X : List α} {S' : List Sl} {ck' : Option Int} {S : σ → List Sl} {C : σ → Option Int} {S1 : σ → α → List Sl} {tb : σ → α → Option σ} {T : σ → Option τ} (x0 : σ)
    (hi : Ig it s ck e (fun _ : Unit => X) (fun _ => S') (fun _ => ck') (some ())) (w : Wk S' (S x0)) (hc : C x0 = ck') (ht : ∀ x a, TgR tg (e a) (S x) (S1 x a)) (hb : ∀ x a, Sk body (S1 x a) (C x) (fun y => .lp (S y) (C y)) (tb x a)) (hk : ∀ x, Sk g (S x) (C x) out (T x)) :
    Sk (sSeq (sFor it tg body) g) s ck out ((lpM tb X x0).bind T) := sk_forM (fun _ => x0) hi (fun _ => w) (fun _ => hc) ht hb hk
theorem sk_forX' {ρ' : Type} {it : Ix} {tg : Tg} {body : Sx} {X : List α} {S' : List Sl} {ck' : Option Int} {S : σ → List Sl} {C : σ → Option Int} {S1 : σ → α → List Sl} {R : ρ' → τ} {tb : σ → α → Option (Fx' σ ρ')} {T : σ → Option τ} (x0 : σ) (hR : ∀ r, IsRet (out (R r)))
    (hi : Ig it s ck e (fun _ : Unit => X) (fun _ => S') (fun _ => ck') (some ())) (w : Wk S' (S x0)) (hc : C x0 = ck') (ht : ∀ x a, TgR tg (e a) (S x) (S1 x a)) (hb : ∀ x a, Sk body (S1 x a) (C x) (outB S C out R) (tb x a)) (hk : ∀ x, Sk g (S x) (C x) out (T x)) :
    Sk (sSeq (sFor it tg body) g) s ck out ((lpX tb X x0).bind (TL.behind T R)) := sk_forX (fun _ => x0) hR hi (fun _ => w) (fun _ => hc) ht hb hk
theorem ig_iv' {it : Ix} {X : List α} (h : Iv it s e (some X)) : Ig it s ck e (fun _ : Unit => X) (fun _ => s) (fun _ => ck) (some ()) := fun b ρ m r y q => ⟨m, h b ck ρ m r X rfl, r⟩
theorem ig_own' (i : Nat) {xs : List α} (h : s[i]? = some (.own (oL e xs))) (hs : s.set i (.lo (eL e xs)) = S1) : Ig (iSeq (eV i)) s ck e (fun _ : Unit => xs) (fun _ => S1) (fun _ => ck) (some ()) := fun b ρ m r y q => by
  obtain ⟨m', h1, h2⟩ := ig_own (ck := ck) i h b ρ m r xs rfl
  exact ⟨m', h1, by rw [← hs]; exact h2⟩
theorem ig_lo (i : Nat) {xs : List α} (h : s[i]? = some (.lo (eL e xs))) : Ig (iSeq (eV i)) s ck e (fun _ : Unit => xs) (fun _ => s) (fun _ => ck) (some ()) := fun b ρ m r y q => by
  obtain ⟨x, m', h1, h2, h3, r2⟩ := r.lo h
  refine ⟨m', ?_, r2⟩
  show (eV i ρ m).bind _ = _
  rw [eV_eq (join_some h1)]
  rcases h3 with ⟨rfl, rfl⟩ | ⟨k, rfl, rfl⟩
  · rfl
  · show ((look m (.own k)).bind _).bind _ = _
    rw [h2]
    rfl
theorem sk_putL' (i : Nat) {fi fv : Ex} {xs : List α} {j : Int} {S1 : List α → List Sl} {T : List α → Option τ} (ho : s[i]? = some (.own (oL e xs))) (hv : Ev fv s e (some a)) (hi : Rv fi s D.int (some j)) (hs : ∀ ys, s.set i (.own (oL e ys)) = S1 ys) (hT : ∀ ys, Sk g (S1 ys) ck out (T ys)) :
    Sk (sSeq (sPutL (eV i) fi fv) g) s ck out ((putI xs j a).bind T) := sk_putL i ho hv hi hs hT
theorem sk_retD' (o : τ) {c1 : Int} (h : Dv fe s e c (some (a, c1))) (ho : out o = .rt (e a) (some c1)) : Sk (sSeq (sRet fe) g) s (some c) out (some o) := fun b ρ m r o' q => by
  cases q
  refine ⟨(.rt (.d (e a)), ρ, m.set 0 (ckO c1)), ?_, ?_⟩
  · show ((fe ρ m).bind _).bind _ = _
    rw [h b ρ m r a c1 rfl]
    rfl
  · rw [ho]
    exact ⟨_, rfl, (r.ckset c1).base, .inl rfl⟩
end
section
variable {s S1 : List Sl} {ck : Option Int} {τ κ α : Type} [DecidableEq κ] {k : κ → Key} {kt : κ → List Key} {e : α → D} {ek : κ → D} {fi fv : Ex} {g : Sx} {out : τ → Out} {a : α} {j : κ}
theorem sk_putD' (i : Nat) {xs : List (κ × α)} {S1 : List (κ × α) → List Sl} {T : List (κ × α) → Option τ} (hk : ∀ a, keyOf (ek a) = some (k a)) (hj : ∀ a b, k a = k b → a = b) (ho : s[i]? = some (.own (oDK k e xs))) (hv : Ev fv s e (some a)) (hi : Rv fi s ek (some j)) (hs : ∀ ys, s.set i (.own (oDK k e ys)) = S1 ys) (hT : ∀ ys, Sk g (S1 ys) ck out (T ys)) :
    Sk (sSeq (sPutD (eV i) fi fv) g) s ck out ((dputG xs j a).bind T) := sk_putD i hk hj ho hv hi hs hT
theorem sk_putDT' (i : Nat) {xs : List (κ × α)} {S1 : List (κ × α) → List Sl} {T : List (κ × α) → Option τ} (hk : ∀ a, keyT (ek a) = some (kt a)) (hj : ∀ a b, kt a = kt b → a = b) (ho : s[i]? = some (.own (oDT kt e xs))) (hv : Ev fv s e (some a)) (hi : Rv fi s ek (some j)) (hs : ∀ ys, s.set i (.own (oDT kt e ys)) = S1 ys) (hT : ∀ ys, Sk g (S1 ys) ck out (T ys)) :
    Sk (sSeq (sPutD (eV i) fi fv) g) s ck out ((dputG xs j a).bind T) := sk_putDT i hk hj ho hv hi hs hT
theorem sk_delD' (i : Nat) {xs : List (κ × α)} {S1 : List (κ × α) → List Sl} {T : List (κ × α) → Option τ} (hk : ∀ a, keyOf (ek a) = some (k a)) (hj : ∀ a b, k a = k b → a = b) (ho : s[i]? = some (.own (oDK k e xs))) (hi : Rv fi s ek (some j)) (hs : ∀ ys, s.set i (.own (oDK k e ys)) = S1 ys) (hT : ∀ ys, Sk g (S1 ys) ck out (T ys)) :
    Sk (sSeq (sDelD (eV i) fi) g) s ck out ((ddelG xs j).bind T) := sk_delD i hk hj ho hi hs hT
end
/-! ### dict comprehensions -/
def dcM {α κ β : Type} [DecidableEq κ] (c : α → Option Bool) (k : α → Option κ) (v : α → Option β) : List α → List (κ × β) → Option (List (κ × β))
  | [], acc => some acc
  | x :: xs, acc => (c x).bind fun b => if b = true then (k x).bind fun i => (v x).bind fun y => (dputG acc i y).bind fun acc => dcM c k v xs acc else dcM c k v xs acc
section
variable {s : List Sl} {α β κ : Type} [DecidableEq κ] {ei : α → D} {ek : κ → D} {ev : β → D} {k : κ → Key} {it : Ix} {vs : List Nat} {tg : Tg} {tt : Tx} {tk tv : Ex} {l : Option (List α)} {S1 : α → List Sl} {c : α → Option Bool} {kf : α → Option κ} {f : α → Option β}
theorem dcLoop_eq {b : Store} {ck : Option Int} {m : Store} {ρ : Rho} (hk : ∀ a, keyOf (ek a) = some (k a)) (hj : ∀ a b, k a = k b → a = b) (r : Rel b ck (wipeS s vs) ρ m) (ht : ∀ a, TgR tg (ei a) (wipeS s vs) (S1 a)) (hc : ∀ a, Tv tt (S1 a) (c a)) (hkf : ∀ a, Ev tk (S1 a) ek (kf a)) (hf : ∀ a, Ev tv (S1 a) ev (f a)) :
    ∀ (xs : List α) (acc ys : List (κ × β)), dcM c kf f xs acc = some ys → dcLoop tg tt tk tv ρ (xs.map ei) (acc.map fun p => (k p.1, ev p.2)) m = some (ys.map fun p => (k p.1, ev p.2), m)
  | [], acc, ys, h => by cases h; rfl
  | x :: xs, acc, ys, h => by
    obtain ⟨b', h1, h⟩ := bnd h
    obtain ⟨ρ1, e1, r1⟩ := ht x b ck ρ m r
    show (tg (.d (ei x)) ρ).bind _ = _
    rw [e1]
    show (tt ρ1 m).bind _ = _
    rw [hc x b ck ρ1 m r1 b' h1]
    show (if b' = true then (tk ρ1 m).bind _ else dcLoop tg tt tk tv ρ (xs.map ei) _ m) = _
    split at h
    · rename_i z
      rw [if_pos z]
      obtain ⟨i, h2, h⟩ := bnd h
      obtain ⟨y, h3, h⟩ := bnd h
      obtain ⟨acc', h4, h⟩ := bnd h
      obtain ⟨hb, rfl⟩ := dputG_some h4
      rw [hkf x b ck ρ1 m r1 i h2]
      show (tv ρ1 m).bind _ = _
      rw [hf x b ck ρ1 m r1 y h3]
      show (keyOf (ek i)).bind _ = _
      rw [hk]
      show (if (acc.map _).length < big then dcLoop tg tt tk tv ρ (xs.map ei) (putD (acc.map fun p => (k p.1, ev p.2)) (k i) (ev y)) m else none) = _
      rw [if_pos (by rw [List.length_map]; exact hb), putD_map hj]
      exact dcLoop_eq hk hj r ht hc hkf hf xs _ ys h
    · rename_i z
      rw [if_neg z]
      exact dcLoop_eq hk hj r ht hc hkf hf xs acc ys h
theorem ev_dc (hk : ∀ a, keyOf (ek a) = some (k a)) (hj : ∀ a b, k a = k b → a = b) (hi : Iv it s ei l) (ht : ∀ a, TgR tg (ei a) (wipeS s vs) (S1 a)) (hc : ∀ a, Tv tt (S1 a) (c a)) (hkf : ∀ a, Ev tk (S1 a) ek (kf a)) (hf : ∀ a, Ev tv (S1 a) ev (f a)) : Ev (eDc it vs tg tt tk tv) s (eDK k ev) (l.bind fun xs => dcM c kf f xs []) := fun b ck ρ m r ys q => by
  obtain ⟨xs, h1, q⟩ := bnd q
  show (it ρ m).bind _ = _
  rw [hi b ck ρ m r xs h1]
  show (dcLoop tg tt tk tv (wipeE ρ vs) (xs.map ei) [] m).bind _ = _
  have := dcLoop_eq hk hj (r.wipe vs) ht hc hkf hf xs [] ys q
  rw [List.map_nil] at this
  rw [this]
  rfl
theorem nv_dc (hk : ∀ a, keyOf (ek a) = some (k a)) (hj : ∀ a b, k a = k b → a = b) (hi : Iv it s ei l) (ht : ∀ a, TgR tg (ei a) (wipeS s vs) (S1 a)) (hc : ∀ a, Tv tt (S1 a) (c a)) (hkf : ∀ a, Ev tk (S1 a) ek (kf a)) (hf : ∀ a, Ev tv (S1 a) ev (f a)) : Nv (eDcO it vs tg tt tk tv) s (oDK k ev) (l.bind fun xs => dcM c kf f xs []) := fun b ck ρ m r ys q => by
  obtain ⟨xs, h1, q⟩ := bnd q
  show (it ρ m).bind _ = _
  rw [hi b ck ρ m r xs h1]
  show (dcLoop tg tt tk tv (wipeE ρ vs) (xs.map ei) [] m).bind _ = _
  have := dcLoop_eq hk hj (r.wipe vs) ht hc hkf hf xs [] ys q
  rw [List.map_nil] at this
  rw [this]
  rfl
end
end
end TL
/-! TL7: walks over dicts, zip, min and max of data, all. -/
namespace TL
open PySem PySem.Spec L2 PL
set_option autoImplicit false
noncomputable section
section
variable {s : List Sl} {κ α β : Type} {k : κ → Key} {ek : κ → D} {e : α → D} {eb : β → D} {f fa fb fc : Ex} {t : Option (List (κ × α))} {ta : Option (List α)} {tb : Option (List β)}
theorem kvs_eq (h : Ev f s (eDK k e) t) {b : Store} {ck : Option Int} {ρ : Rho} {m : Store} (r : Rel b ck s ρ m) {d : List (κ × α)} (q : t = some d) : kvsE f ρ m = some (d.map fun p => (k p.1, e p.2), m) := by
  show (f ρ m).bind _ = _
  rw [h b ck ρ m r d q]
  rfl
theorem iv_keys (hk : ∀ i, keyD (k i) = ek i) (h : Ev f s (eDK k e) t) : Iv (iKeysD f) s ek (t.bind fun d => some (d.map (·.1))) := fun b ck ρ m r xs q => by
  obtain ⟨d, e1, q⟩ := bnd q
  cases q
  show (kvsE f ρ m).bind _ = _
  rw [kvs_eq h r e1]
  show some (_, m) = _
  rw [List.map_map, List.map_map]
  congr 2
  exact List.map_congr_left fun p _ => hk p.1
theorem iv_items (hk : ∀ i, keyD (k i) = ek i) (h : Ev f s (eDK k e) t) : Iv (iItemsD f) s (e2 ek e) t := fun b ck ρ m r d q => by
  show (kvsE f ρ m).bind _ = _
  rw [kvs_eq h r q]
  show some (_, m) = _
  rw [List.map_map]
  congr 2
  exact List.map_congr_left fun p _ => by
    show D.tup [keyD (k p.1), e p.2] = D.tup [ek p.1, e p.2]
    rw [hk]
theorem iv_vals (h : Ev f s (eDK k e) t) : Iv (iValsD f) s e (t.bind fun d => some (d.map (·.2))) := fun b ck ρ m r xs q => by
  obtain ⟨d, e1, q⟩ := bnd q
  cases q
  show (kvsE f ρ m).bind _ = _
  rw [kvs_eq h r e1]
  show some (_, m) = _
  rw [List.map_map, List.map_map]
  rfl
theorem keyD_I (i : Int) : keyD (kI i) = .int i := rfl
theorem keyD_S (i : Str) : keyD (kS i) = .str i := rfl
/-- an own dict walked: it is frozen -/
theorem kvs_own {b : Store} {ck : Option Int} {ρ : Rho} {m : Store} {i : Nat} {d : List (κ × α)} (r : Rel b ck s ρ m) (h : s[i]? = some (.own (oDK k e d))) : ∃ m', kvsE (eV i) ρ m = some (d.map fun p => (k p.1, e p.2), m') ∧ Rel b ck (s.set i (.lo (eDK k e d))) ρ m' := by
  obtain ⟨c, g1, g2, g3, g4, g5, g6, g7⟩ := r.own h
  refine ⟨_, ?_, g6⟩
  show (eV i ρ m).bind _ = _
  rw [eV_eq g1]
  show ((look m (.own c)).bind _).bind _ = _
  rw [look_own g2]
  rfl
theorem ig_keys {S1 : List Sl} {ck : Option Int} (i : Nat) {d : List (κ × α)} (hk : ∀ i, keyD (k i) = ek i) (h : s[i]? = some (.own (oDK k e d))) (hs : s.set i (.lo (eDK k e d)) = S1) : Ig (iKeysD (eV i)) s ck ek (fun _ : Unit => d.map (·.1)) (fun _ => S1) (fun _ => ck) (some ()) := fun b ρ m r y q => by
  obtain ⟨m', e1, r1⟩ := kvs_own r h
  refine ⟨m', ?_, by rw [← hs]; exact r1⟩
  show (kvsE (eV i) ρ m).bind _ = _
  rw [e1]
  show some (_, m') = _
  rw [List.map_map, List.map_map]
  congr 2
  exact List.map_congr_left fun p _ => hk p.1
theorem ig_items {S1 : List Sl} {ck : Option Int} (i : Nat) {d : List (κ × α)} (hk : ∀ i, keyD (k i) = ek i) (h : s[i]? = some (.own (oDK k e d))) (hs : s.set i (.lo (eDK k e d)) = S1) : Ig (iItemsD (eV i)) s ck (e2 ek e) (fun _ : Unit => d) (fun _ => S1) (fun _ => ck) (some ()) := fun b ρ m r y q => by
  obtain ⟨m', e1, r1⟩ := kvs_own r h
  refine ⟨m', ?_, by rw [← hs]; exact r1⟩
  show (kvsE (eV i) ρ m).bind _ = _
  rw [e1]
  show some (_, m') = _
  rw [List.map_map]
  congr 2
  exact List.map_congr_left fun p _ => by
    show D.tup [keyD (k p.1), e p.2] = D.tup [ek p.1, e p.2]
    rw [hk]
/-! zip -/
theorem iv_zipL (ha : Ev fa s (eL e) ta) (hb : Ev fb s (eL eb) tb) : Iv (iZipD fa fb) s (e2 e eb) (ta.bind fun a => tb.bind fun b => some (a.zip b)) := fun b ck ρ m r xs q => by
  obtain ⟨x, e1, q⟩ := bnd q
  obtain ⟨y, e2, q⟩ := bnd q
  cases q
  show (((fa ρ m).bind _).bind _) = _
  rw [ha b ck ρ m r x e1]
  show (((fb ρ m).bind _).bind _) = _
  rw [hb b ck ρ m r y e2]
  show some ((((x.map e).zip (y.map eb)).map fun p => D.tup [p.1, p.2]), m) = _
  rw [List.zip_map, List.map_map]
  rfl
theorem iv_zipT (ha : Ev fa s (eL e) ta) (hb : Ev fb s (eT eb) tb) : Iv (iZipD fa fb) s (e2 e eb) (ta.bind fun a => tb.bind fun b => some (a.zip b)) := fun b ck ρ m r xs q => by
  obtain ⟨x, e1, q⟩ := bnd q
  obtain ⟨y, e2, q⟩ := bnd q
  cases q
  show (((fa ρ m).bind _).bind _) = _
  rw [ha b ck ρ m r x e1]
  show (((fb ρ m).bind _).bind _) = _
  rw [hb b ck ρ m r y e2]
  show some ((((x.map e).zip (y.map eb)).map fun p => D.tup [p.1, p.2]), m) = _
  rw [List.zip_map, List.map_map]
  rfl
/-! range(a, b, c) -/
def rg3 (a b c : Int) : Option (List Int) := if small a = true ∧ small b = true ∧ small c = true ∧ 0 < c then some (rgUp a b c) else none
theorem iv_rg3 {a n c : Option Int} (ha : Rv fa s D.int a) (hb : Rv fb s D.int n) (hc : Rv fc s D.int c) : Iv (iRange3 fa fb fc) s D.int (a.bind fun a => n.bind fun n => c.bind fun c => rg3 a n c) := fun b ck ρ m r xs q => by
  obtain ⟨i, e1, q⟩ := bnd q
  obtain ⟨j, e2, q⟩ := bnd q
  obtain ⟨l, e3, q⟩ := bnd q
  obtain ⟨x, h1, l1⟩ := ha b ck ρ m r i e1
  obtain ⟨y, h2, l2⟩ := hb b ck ρ m r j e2
  obtain ⟨z, h3, l3⟩ := hc b ck ρ m r l e3
  unfold rg3 at q
  split at q
  · rename_i w
    cases q
    obtain ⟨w1, w2, w3, w4⟩ := w
    have w1 := small_iff.mp w1
    have w2 := small_iff.mp w2
    have w3 := small_iff.mp w3
    have hb : (big : Int) = 1000000 := rfl
    have i1 : intOf m x = some i := by unfold intOf; simp only [l1.look]
    have i2 : intOf m y = some j := by unfold intOf; simp only [l2.look]
    have i3 : intOf m z = some l := by unfold intOf; simp only [l3.look]
    show (fa ρ m).bind _ = _
    rw [h1]
    show (fb ρ m).bind _ = _
    rw [h2]
    show (fc ρ m).bind _ = _
    rw [h3]
    show (intOf m x).bind _ = _
    rw [i1]
    show (intOf m y).bind _ = _
    rw [i2]
    show (intOf m z).bind _ = _
    rw [i3]
    show (if okP _ = true then _ else _) = _
    rw [if_pos (okP_true ⟨by omega, by omega, by omega, by omega, by omega, by omega⟩)]
  · cases q
theorem op_all (a : List Bool) (c : Bool) (h : some (a.all id) = some c) : opAll (eL D.bl a) = some (.bl c) := by
  cases h
  show (blsOf (a.map .bl)).map _ = _
  rw [blsOf_map]; rfl
theorem ev_dic0 : Ev eDic0 s (eDK k e) (some []) := fun b ck ρ m r a q => by cases q; rfl
theorem nv_dict (h : Rv f s (eDK k e) t) : Nv (eDictO f) s (oDK k e) t := fun b ck ρ m r d q => by
  obtain ⟨x, e1, l1⟩ := h b ck ρ m r d q
  show (f ρ m).bind _ = _
  rw [e1]
  show (look m x).bind _ = _
  rw [l1.look]
  rfl
end
/-! min, max of data -/
def minG {α : Type} (lt : α → α → Bool) : List α → Option α
  | [] => none
  | x :: xs => some (xs.foldl (fun a y => if lt y a = true then y else a) x)
def maxG {α : Type} (lt : α → α → Bool) : List α → Option α
  | [] => none
  | x :: xs => some (xs.foldl (fun a y => if lt a y = true then y else a) x)
structure PyO {α : Type} (e : α → D) (lt : α → α → Bool) : Prop where
  ex : ∃ p : α → PyData, (∀ a, py (e a) = some (p a)) ∧ (∀ a b, PySem.W.alike (p a) (p b) = true) ∧ (∀ a, p a ≠ .none) ∧ (∀ a b, PySem.W.dataLt (p a) (p b) = lt a b)
  dep : ∀ a, depD (e a) ≤ 60
theorem pys_mapP {α : Type} {e : α → D} {p : α → PyData} (h : ∀ a, py (e a) = some (p a)) : ∀ xs : List α, pys (xs.map e) = some (xs.map p)
  | [] => rfl
  | x :: xs => by
    show (py (e x)).bind _ = _
    rw [h x]
    show ((pys (xs.map e)).map _) = _
    rw [pys_mapP h xs]; rfl
theorem fold_map {α β : Type} (g : α → β) (f : α → α → α) (f' : β → β → β) (h : ∀ a b, g (f a b) = f' (g a) (g b)) : ∀ (xs : List α) (x : α), g (xs.foldl f x) = (xs.map g).foldl f' (g x)
  | [], x => rfl
  | y :: xs, x => by
    show g (xs.foldl f (f x y)) = (xs.map g).foldl f' (f' (g x) (g y))
    rw [fold_map g f f' h xs, h]
theorem best_eq {α : Type} {e : α → D} {lt : α → α → Bool} (h : PyO e lt) {best : PyData → List PyData → PyData} {x m : α} {xs : List α} (hb : ∀ p : α → PyData, (∀ a b, PySem.W.dataLt (p a) (p b) = lt a b) → best (p x) (xs.map p) = p m) (hm : m ∈ x :: xs) :
    (match pys ((x :: xs).map e) with | some (p :: ps) => if okP (PySem.W.AlikeAll (p :: ps) ∧ depDs ((x :: xs).map e) ≤ 60) = true then ((x :: xs).map e).find? (fun z => okP (py z = some (best p ps))) else none | _ => none) = some (e m) := by
  obtain ⟨p, h1, h2, h3, h4⟩ := h.ex
  rw [pys_mapP h1]
  show (if okP _ = true then ((x :: xs).map e).find? (fun z => okP (py z = some (best (p x) (xs.map p)))) else none) = _
  have al : PySem.W.AlikeAll (p x :: xs.map p) := by
    refine ⟨fun a ha b hb => ?_, fun a ha => ?_⟩
    · obtain ⟨a', _, rfl⟩ := List.mem_map.mp (show a ∈ (x :: xs).map p from ha)
      obtain ⟨b', _, rfl⟩ := List.mem_map.mp (show b ∈ (x :: xs).map p from hb)
      exact h2 a' b'
    · obtain ⟨a', _, rfl⟩ := List.mem_map.mp (show a ∈ (x :: xs).map p from ha)
      exact h3 a'
  rw [if_pos (okP_true ⟨al, depDs_map h.dep _⟩), hb p h4]
  have some' : (((x :: xs).map e).find? fun z => okP (py z = some (p m))).isSome = true := by
    rw [List.find?_isSome]
    exact ⟨e m, List.mem_map.mpr ⟨m, hm, rfl⟩, okP_true (h1 m)⟩
  obtain ⟨z, hz⟩ := Option.isSome_iff_exists.mp some'
  rw [hz]
  have := of_okP (List.find?_some (p := fun z => okP (py z = some (p m))) hz)
  rw [(py_inj _ _ _ _ this (h1 m)).mp ((py_inj _ _ _ _ this this).mpr rfl)]
theorem foldl_mem {α : Type} (c : α → α → Bool) : ∀ (xs : List α) (x : α), xs.foldl (fun a y => if c a y = true then y else a) x ∈ x :: xs
  | [], x => List.mem_cons_self
  | y :: xs, x => by
    rw [List.foldl_cons]
    split
    · exact List.mem_cons_of_mem _ (foldl_mem c xs y)
    · rcases List.mem_cons.mp (foldl_mem c xs x) with h | h
      · rw [h]; exact List.mem_cons_self
      · exact List.mem_cons_of_mem _ (List.mem_cons_of_mem _ h)
section
variable {α : Type} {e : α → D} {lt : α → α → Bool}
theorem min_core (h : PyO e lt) (x : α) (xs : List α) : (match pys ((x :: xs).map e) with | some (p :: ps) => if okP (PySem.W.AlikeAll (p :: ps) ∧ depDs ((x :: xs).map e) ≤ 60) = true then ((x :: xs).map e).find? (fun z => okP (py z = some (PySem.W.minD p ps))) else none | _ => none) = some (e (xs.foldl (fun a y => if lt y a = true then y else a) x)) :=
  best_eq h (fun p hp => by
    unfold PySem.W.minD
    exact (fold_map p _ _ (fun a b => by show p (if lt b a = true then b else a) = if PySem.W.dataLt (p b) (p a) = true then p b else p a; rw [hp]; split <;> rfl) xs x).symm) (foldl_mem (fun a y => lt y a) xs x)
theorem max_core (h : PyO e lt) (x : α) (xs : List α) : (match pys ((x :: xs).map e) with | some (p :: ps) => if okP (PySem.W.AlikeAll (p :: ps) ∧ depDs ((x :: xs).map e) ≤ 60) = true then ((x :: xs).map e).find? (fun z => okP (py z = some (PySem.W.maxD p ps))) else none | _ => none) = some (e (xs.foldl (fun a y => if lt a y = true then y else a) x)) :=
  best_eq h (fun p hp => by
    unfold PySem.W.maxD
    exact (fold_map p _ _ (fun a b => by show p (if lt a b = true then b else a) = if PySem.W.dataLt (p a) (p b) = true then p b else p a; rw [hp]; split <;> rfl) xs x).symm) (foldl_mem (fun a y => lt a y) xs x)
theorem op_minL (h : PyO e lt) (a : List α) (c : α) (q : minG lt a = some c) : opBest PySem.W.minD (eL e a) = some (e c) := by
  cases a with
  | nil => cases q
  | cons x xs => cases q; exact min_core h x xs
theorem op_minT (h : PyO e lt) (a : List α) (c : α) (q : minG lt a = some c) : opBest PySem.W.minD (eT e a) = some (e c) := by
  cases a with
  | nil => cases q
  | cons x xs => cases q; exact min_core h x xs
theorem op_maxL (h : PyO e lt) (a : List α) (c : α) (q : maxG lt a = some c) : opBest PySem.W.maxD (eL e a) = some (e c) := by
  cases a with
  | nil => cases q
  | cons x xs => cases q; exact max_core h x xs
theorem op_maxT (h : PyO e lt) (a : List α) (c : α) (q : maxG lt a = some c) : opBest PySem.W.maxD (eT e a) = some (e c) := by
  cases a with
  | nil => cases q
  | cons x xs => cases q; exact max_core h x xs
end
def ltI (a b : Int) : Bool := decide (a < b)
def ltP (a b : Int × Int) : Bool := decide (a.1 < b.1 ∨ (a.1 = b.1 ∧ a.2 < b.2))
theorem pyO_int : PyO D.int ltI := ⟨⟨PyData.int, fun _ => rfl, fun _ _ => by simp [PySem.W.alike], (fun _ h => nomatch h), fun a b => PySem.W.dataLt_int a b⟩, fun _ => Nat.zero_le _⟩
theorem pyO_pair : PyO (e2 D.int D.int) ltP := ⟨⟨fun p => .tuple [.int p.1, .int p.2], fun _ => by simp [e2, py, pys], fun _ _ => by simp [PySem.W.alike, PySem.W.alikeAll], (fun _ h => nomatch h), fun a b => PySem.W.dataLt_ii _ _ _ _⟩, fun a => by simp [e2, depD, depDs]⟩
/-! d.get(k, x), isinstance, what is of any type -/
theorem ev_get2 {s : List Sl} {κ α : Type} [DecidableEq κ] {ek : κ → D} {e : α → D} {ed : List (κ × α) → D} {fo fi fd : Ex} {td : Option (List (κ × α))} {ti : Option κ} {tv : Option α} (hd : ∀ d, isDicD (ed d) = true) (hg : ∀ d i, dget (ed d) (ek i) = some ((dgetL d i).map e)) (ho : Rv fo s ed td) (hi : Rv fi s ek ti) (hv : Ev fd s e tv) :
    Ev (eGet2 fo fi fd) s e (td.bind fun d => ti.bind fun i => tv.bind fun v => some ((dgetL d i).getD v)) := fun b ck ρ m r c q => by
  obtain ⟨d, e1, q⟩ := bnd q
  obtain ⟨i, e2, q⟩ := bnd q
  obtain ⟨v, e3, q⟩ := bnd q
  cases q
  obtain ⟨x, h1, l1⟩ := ho b ck ρ m r d e1
  obtain ⟨y, h2, l2⟩ := hi b ck ρ m r i e2
  show (fo ρ m).bind _ = _
  rw [h1]
  show (look m x).bind _ = _
  rw [l1.look]
  show (if isDicD (ed d) = true then (fi ρ m).bind _ else none) = _
  rw [if_pos (hd d), h2]
  show (fd ρ m).bind _ = _
  rw [hv b ck ρ m r v e3]
  show (look m x).bind _ = _
  rw [l1.look]
  show (look m y).bind _ = _
  rw [l2.look]
  show (dget (ed d) (ek i)).bind _ = _
  rw [hg]
  show some (E.d (((dgetL d i).map e).getD (e v)), m) = _
  cases dgetL d i <;> rfl
theorem ev_isi {s : List Sl} {α : Type} {e : α → D} {f : Ex} {t : Option α} (T k : String) (x : Bool) (hx : isKind T k = x) (hk : ∀ a, kindD (e a) = some k) (h : Rv f s e t) : Ev (eIsi T f) s D.bl (t.bind fun _ => some x) := fun b ck ρ m r c q => by
  obtain ⟨d, e1, q⟩ := bnd q
  cases q
  obtain ⟨y, h1, l1⟩ := h b ck ρ m r d e1
  show (f ρ m).bind _ = _
  rw [h1]
  show (look m y).bind _ = _
  rw [l1.look]
  show (kindD (e d)).bind _ = _
  rw [hk, ← hx]
  rfl
/-- of what may be None -/
theorem ev_isiO {s : List Sl} {α : Type} {e : α → D} {f : Ex} {t : Option (Option α)} (T k : String) (x y : Bool) (hx : isKind T k = x) (hy : isKind T "NoneType" = y) (hk : ∀ a, kindD (e a) = some k) (h : Rv f s (eO e) t) : Ev (eIsi T f) s D.bl (t.bind fun o => some (if o.isSome = true then x else y)) := fun b ck ρ m r c q => by
  obtain ⟨d, e1, q⟩ := bnd q
  cases q
  obtain ⟨w, h1, l1⟩ := h b ck ρ m r d e1
  show (f ρ m).bind _ = _
  rw [h1]
  show (look m w).bind _ = _
  rw [l1.look]
  show (kindD (eO e d)).bind _ = _
  subst hx hy
  cases d with
  | none => rfl
  | some a =>
    show (kindD (e a)).bind _ = _
    rw [hk]
    rfl
def isiD (T : String) (d : D) : Option Bool := (kindD d).map (isKind T)
theorem ev_isiD {s : List Sl} {f : Ex} {t : Option D} (T : String) (h : Rv f s id t) : Ev (eIsi T f) s D.bl (t.bind (isiD T)) := fun b ck ρ m r c q => by
  obtain ⟨d, e1, q⟩ := bnd q
  obtain ⟨k, h2, rfl⟩ := Option.map_eq_some_iff.mp q
  obtain ⟨w, h1, l1⟩ := h b ck ρ m r d e1
  show (f ρ m).bind _ = _
  rw [h1]
  show (look m w).bind _ = _
  rw [l1.look]
  show (kindD d).bind _ = _
  rw [h2]
  rfl
theorem op_inDD {α β : Type} {e : α → D} {f : β → D} (a : α) (b : β) (c : Bool) (h : inD (e a) (f b) = some c) : opIn (e a) (f b) = some (.bl c) := by
  unfold opIn; rw [h]; rfl
theorem op_ninDD {α β : Type} {e : α → D} {f : β → D} (a : α) (b : β) (c : Bool) (h : (inD (e a) (f b)).map (!·) = some c) : opNotIn (e a) (f b) = some (.bl c) := by
  unfold opNotIn
  cases q : inD (e a) (f b) with
  | none => rw [q] at h; cases h
  | some x => rw [q] at h; cases h; rfl
def lenD (d : D) : Option Int := (opLen d).bind asI
theorem op_lenAny (d : D) (c : Int) (h : lenD d = some c) : opLen (id d) = some (.int c) := by
  obtain ⟨x, h1, h2⟩ := bnd h
  show opLen d = _
  rw [h1, asI_eq _ _ h2]
def isNoneD (d : D) : Option Bool := (opIsN d .non).bind asB
def notNoneD (d : D) : Option Bool := (opNotN d .non).bind asB
theorem op_isND (d : D) (u : Unit) (c : Bool) (h : isNoneD d = some c) : opIsN (id d) (eU u) = some (.bl c) := by
  obtain ⟨x, h1, h2⟩ := bnd h
  show opIsN d .non = _
  rw [h1, asB_eq _ _ h2]
theorem op_notND (d : D) (u : Unit) (c : Bool) (h : notNoneD d = some c) : opNotN (id d) (eU u) = some (.bl c) := by
  obtain ⟨x, h1, h2⟩ := bnd h
  show opNotN d .non = _
  rw [h1, asB_eq _ _ h2]
theorem ev_slD {s : List Sl} {f : Ex} {l h : Ox} {t : Option D} {tl th : Option (Option Int)} (hf : Rv f s id t) (hl : Ov l s tl) (hh : Ov h s th) : Ev (eSl f l h) s id (t.bind fun xs => tl.bind fun a => th.bind fun b => opSl xs a b) := fun b ck ρ m r c q => by
  obtain ⟨xs, e1, q⟩ := bnd q
  obtain ⟨a, e2, q⟩ := bnd q
  obtain ⟨b', e3, q⟩ := bnd q
  obtain ⟨x, h1, l1⟩ := hf b ck ρ m r xs e1
  show (f ρ m).bind _ = _
  rw [h1]
  show (l ρ m).bind _ = _
  rw [hl b ck ρ m r a e2]
  show (h ρ m).bind _ = _
  rw [hh b ck ρ m r b' e3]
  show (look m x).bind _ = _
  rw [l1.look]
  show (opSl xs a b').bind _ = _
  rw [q]
  rfl
def asTI (d : D) : Option (List Int) := match d with
  | .tup xs => intsOf xs
  | _ => none
theorem asTI_eq (d : D) (a : List Int) (h : asTI d = some a) : eT D.int a = d := by
  cases d with
  | tup xs => rw [intsOf_eq (show intsOf xs = some a from h)]; rfl
  | _ => cases h
/-! what is written no more -/
section
variable {s S1 : List Sl} {ck : Option Int} {τ : Type} {out : τ → Out} {g : Sx} {t : Option τ}
theorem seqFrz_eq {i : Nat} {ρ : Rho} {m m' : Store} {x : E} {d : D} (h : (ρ[i]?).join = some x) (hf : frzE m x = some (d, m')) : sSeq (sFrz i) g ρ m = g (ρ.set i (some (.d d))) m' := by
  show (sFrz i ρ m).bind _ = _
  unfold sFrz
  simp only [join_some h]
  rw [hf]
  rfl
theorem sk_frz (i : Nat) {o : O} {d : D} (h : s[i]? = some (.own o)) (hd : lookO o = d) (hs : s.set i (.val d) = S1) (hk : Sk g S1 ck out t) : Sk (sSeq (sFrz i) g) s ck out t := fun b ρ m r w q => by
  obtain ⟨k, g1, g2, g3, g4, g5, g6, g7⟩ := r.own h
  rw [seqFrz_eq (x := .own k) (d := d) (m' := m.set k (.frz d)) (by rw [g1]; rfl) (by
    show (look m (.own k)).bind _ = _
    rw [look_own g2, hd]
    rfl)]
  rw [hd] at g6
  have := g6.setv i d
  rw [List.set_set, hs] at this
  exact hk b _ _ this w q
theorem sk_frzL (i : Nat) {d : D} (h : s[i]? = some (.lo d)) (hs : s.set i (.val d) = S1) (hk : Sk g S1 ck out t) : Sk (sSeq (sFrz i) g) s ck out t := fun b ρ m r w q => by
  obtain ⟨x, m', h1, h2, h3, r2⟩ := r.lo h
  rw [seqFrz_eq (x := x) (d := d) (m' := m') h1 (by
    rcases h3 with ⟨rfl, rfl⟩ | ⟨k, rfl, rfl⟩
    · rfl
    · show (look m (.own k)).bind _ = _
      rw [h2]
      rfl)]
  have := r2.setv i d
  rw [hs] at this
  exact hk b _ _ this w q
theorem sk_frzV (i : Nat) {d : D} (h : s[i]? = some (.val d)) (hk : Sk g s ck out t) : Sk (sSeq (sFrz i) g) s ck out t := fun b ρ m r w q => by
  obtain ⟨cs, _, _, h3⟩ := r.ex
  have e := h3 i _ h
  rw [seqFrz_eq (x := .d d) (d := d) (m' := m) e rfl]
  have := r.setv i d
  have e2 : s.set i (.val d) = s := List.ext_getElem? fun j => by
    by_cases hj : i = j
    · subst hj; rw [List.getElem?_set_self (List.getElem?_eq_some_iff.mp h).1, h]
    · rw [List.getElem?_set_ne hj]
  rw [e2] at this
  exact hk b _ _ this w q
end
/-! a call as a statement -/
theorem sk_exp {s : List Sl} {ck : Option Int} {τ α : Type} {out : τ → Out} {e : α → D} {fe : Ex} {g : Sx} {t : Option α} {T : Option τ} (h : Ev fe s e t) (hk : Sk g s ck out T) : Sk (sSeq (sExp fe) g) s ck out (t.bind fun _ => T) := fun b ρ m r o q => by
  obtain ⟨a, h1, q⟩ := bnd q
  rw [seqExp_eq (h b ck ρ m r a h1)]
  exact hk b ρ m r o q
end
end TL
/-! TL8: the deal, the drawing, bool, same -/
namespace Lw
open PySem PySem.Spec L2 PL TL
set_option autoImplicit false
noncomputable section
noncomputable def b__law_deal : Sx :=
  (sSeq (sSet 1 (eLstO aNil))
    (sSeq (sSeq (sFor (iRange1 (eBi opMin2 (eUn opLen (eV 0)) (eC (.int 63)))) (tgName 2) (sSeq (sSet 3 (eUn opAbs (eUn opInt (eBin gIx (eV 0) (eV 2)))))
    (sIf (tOf (eBin (g2 opGe) (eV 3) (eBin (g2 opPow) (eC (.int 10)) (eC (.int 18))))) (sFor (iRange1 (eC (.int 40))) (tgName 4) (sIf (tOf (eBin (g2 opGt) (eV 3) (eC (.int 0)))) (sSeq (sExp (eApp (eV 1) (eBin (g2 opMod) (eV 3) (eC (.int 1009)))))
    (sSet 3 (eBin (g2 opDiv) (eV 3) (eC (.int 1009))))) sNil)) (sSeq (sSet 3 (eBin (g2 opAdd) (eBin (g2 opAdd) (eBin (g2 opMulA) (eBin (g2 opMod) (eV 3) (eC (.int 2147483629))) (eC (.int 48271))) (eBin (g2 opMulA) (eV 2) (eC (.int 69621)))) (eC (.int 11))))
    (sFor (iRange1 (eC (.int 5))) (tgName 4) (sSeq (sSet 3 (eBin (g2 opMod) (eBin (g2 opAdd) (eBin (g2 opAdd) (eBin (g2 opMulA) (eV 3) (eC (.int 16807))) (eC (.int 12345))) (eV 4)) (eC (.int 2147483647))))
    (sExp (eApp (eV 1) (eBin (g2 opMod) (eBin (g2 opDiv) (eV 3) (eC (.int 7))) (eC (.int 1009))))))))))) (sFrz 1))
    (sSeq (sSet 5 (eBin (g2 opAdd) (eUn opSum (eV 1)) (eUn opLen (eV 0))))
    (sRet (eDeal (eV 1) (eLstO (aCons (eC (.int 0)) aNil)) (eV 5))))))
noncomputable def m__law_deal : Fx := fnD 1 5 b__law_deal
noncomputable def p__law_deal : Sx :=
  (sSeq (sSet 1 (eLstO aNil))
    (sSeq (sSeq (sFor (iRange1 (eBi opMin2 (eUn opLen (eV 0)) (eC (.int 63)))) (tgName 2) (sSeq (sSet 3 (eUn opAbs (eUn opInt (eBin gIx (eV 0) (eV 2)))))
    (sIf (tOf (eBin (g2 opGe) (eV 3) (eBin (g2 opPow) (eC (.int 10)) (eC (.int 18))))) (sFor (iRange1 (eC (.int 40))) (tgName 4) (sIf (tOf (eBin (g2 opGt) (eV 3) (eC (.int 0)))) (sSeq (sExp (eApp (eV 1) (eBin (g2 opMod) (eV 3) (eC (.int 1009)))))
    (sSet 3 (eBin (g2 opDiv) (eV 3) (eC (.int 1009))))) sNil)) (sSeq (sSet 3 (eBin (g2 opAdd) (eBin (g2 opAdd) (eBin (g2 opMulA) (eBin (g2 opMod) (eV 3) (eC (.int 2147483629))) (eC (.int 48271))) (eBin (g2 opMulA) (eV 2) (eC (.int 69621)))) (eC (.int 11))))
    (sFor (iRange1 (eC (.int 5))) (tgName 4) (sSeq (sSet 3 (eBin (g2 opMod) (eBin (g2 opAdd) (eBin (g2 opAdd) (eBin (g2 opMulA) (eV 3) (eC (.int 16807))) (eC (.int 12345))) (eV 4)) (eC (.int 2147483647))))
    (sExp (eApp (eV 1) (eBin (g2 opMod) (eBin (g2 opDiv) (eV 3) (eC (.int 7))) (eC (.int 1009))))))))))) (sFrz 1))
    (sSet 5 (eBin (g2 opAdd) (eUn opSum (eV 1)) (eUn opLen (eV 0))))))
theorem deal_split : b__law_deal = sSeq p__law_deal (sRet (eDeal (eV 1) (eLstO (aCons (eC (.int 0)) aNil)) (eV 5))) := by
  unfold b__law_deal p__law_deal
  simp only [sSeq_assoc]
def t__law_deal (ns : List Int) : Option (List Int × Int) :=
  (rg (min (len ns) (63 : Int))).bind fun l45 => (lpM (fun (s5 : (List Int)) y6 => ((((atI ns y6).bind fun x10 => some x10).bind fun x12 => some (absI x12)).bind fun v13 => ((powG (10 : Int) (18 : Int)).bind fun x18 => some (decide (x18 ≤ v13))).bind fun b39 => if b39 = true then (rg (40 : Int)).bind fun l25 => (lpM (fun (s19 : (List Int) × Int) y20 => (if (decide ((0 : Int) < s19.2)) = true then (snoc s19.1 (s19.2 % (1009 : Int))).bind fun row23 => some (row23, s19.2 / (1009 : Int)) else some (s19.1, s19.2) : Option ((List Int) × Int))) l25 (s5, v13)).bind fun s24 => some s24.1 else (rg (5 : Int)).bind fun l38 => (lpM (fun (s30 : (List Int) × Int) y31 => ((snoc s30.1 ((((((s30.2 * (16807 : Int)) + (12345 : Int)) + y31) % (2147483647 : Int)) / (7 : Int)) % (1009 : Int))).bind fun row36 => some (row36, (((s30.2 * (16807 : Int)) + (12345 : Int)) + y31) % (2147483647 : Int)) : Option ((List Int) × Int))) l38 (s5, (((v13 % (2147483629 : Int)) * (48271 : Int)) + (y6 * (69621 : Int))) + (11 : Int))).bind fun s37 => some s37.1 : Option ((List Int)))) l45 []).bind fun s40 => some (s40, s40.sum + (len ns))
theorem l__law_deal (ns : List Int) : Sk p__law_deal [.val (D.scr ns), .any, .any, .any, .any, .any] none (fun p : List Int × Int => .nx [.any, .val (eL D.int p.1), .any, .any, .any, .val (D.int p.2)] none) (t__law_deal ns) := by
  unfold p__law_deal t__law_deal
  exact (sk_new' (w := (oL D.int)) (S1 := [.val (D.scr ns), .own ((oL D.int) []), .any, .any, .any, .any]) 1 ((nv_lst (L := fun _ : Unit => []) (w := (oL D.int)) (fun _ => []) (fun _ => rfl) (fun _ => bigK 0 rfl) av_nil) : Nv _ _ _ (some [])) rfl (sk_assoc (sk_forM (σ := (List Int)) (S := fun s5 => [.val (D.scr ns), .own ((oL D.int) s5), .any, .any, .any, .any]) (C := fun s5 => none) (S1 := fun s5 y6 => [.val (D.scr ns), .own ((oL D.int) s5), .val (D.int y6), .any, .any, .any]) (fun _ => []) (ig_iv (e := D.int) (ivE (iv_rg (Ev.rv (ev_bi (ea := D.int) (eb := D.int) (ec := D.int) (fun a3 b4 => some (min a3 b4)) op_min2 (Ev.rv (ev_un (ea := D.scr) (eb := D.int) (fun a2 => some (len a2)) op_lenS (Ev.rv (ev_var (ea := D.scr) 0 ns rfl)))) (Ev.rv (ev_c (ea := D.int) (63 : Int) rfl))))) (by simp -implicitDefEqProofs only [Option.bind_some, Option.bind_fun_some]) : Iv _ _ _ (rg (min (len ns) (63 : Int))))) (fun _ => wk_of _ [0, 0, 0, 0, 0, 0]) (fun _ => rfl) (fun s5 y6 => (tg_name rfl)) (fun s5 y6 => (sk_set (S1 := fun v13 => [.val (D.scr ns), .own ((oL D.int) s5), .val (D.int y6), .val (D.int v13), .any, .any]) 3 (evE (ev_un (ea := D.int) (eb := D.int) (fun a11 => some (absI a11)) op_abs (Ev.rv (ev_un (ea := D.int) (eb := D.int) (fun a9 => some a9) op_int (Ev.rv (ev_ix (ea := D.scr) (eb := D.int) (ec := D.int) (fun a7 b8 => atI a7 b8) op_ixS (Ev.rv (ev_var (ea := D.scr) 0 ns rfl)) (Ev.rv (ev_var (ea := D.int) 2 y6 rfl))))))) (by simp -implicitDefEqProofs only [Option.bind_some, Option.bind_fun_some]) : Ev _ _ D.int (((atI ns y6).bind fun x10 => some x10).bind fun x12 => some (absI x12))) (fun _ => rfl) (fun v13 => (sk_last (sk_if (tvE (tv_of (ev_bin (ea := D.int) (eb := D.int) (ec := D.bl) (fun a16 b17 => some (decide (b17 ≤ a16))) op_ge (Ev.rv (ev_var (ea := D.int) 3 v13 rfl)) (Ev.rv (ev_bin (ea := D.int) (eb := D.int) (ec := D.int) (fun a14 b15 => powG a14 b15) op_pow (Ev.rv (ev_c (ea := D.int) (10 : Int) rfl)) (Ev.rv (ev_c (ea := D.int) (18 : Int) rfl)))))) (by simp -implicitDefEqProofs only [Option.bind_some, Option.bind_fun_some]) : Tv _ _ ((powG (10 : Int) (18 : Int)).bind fun x18 => some (decide (x18 ≤ v13)))) (sk_forM (σ := (List Int) × Int) (S := fun s19 => [.val (D.scr ns), .own ((oL D.int) s19.1), .val (D.int y6), .val (D.int s19.2), .any, .any]) (C := fun s19 => none) (S1 := fun s19 y20 => [.val (D.scr ns), .own ((oL D.int) s19.1), .val (D.int y6), .val (D.int s19.2), .val (D.int y20), .any]) (fun _ => (s5, v13)) (ig_iv (e := D.int) (ivE (iv_rg (Ev.rv (ev_c (ea := D.int) (40 : Int) rfl))) (by simp -implicitDefEqProofs only [Option.bind_some, Option.bind_fun_some]) : Iv _ _ _ (rg (40 : Int)))) (fun _ => wk_of _ [0, 0, 0, 0, 0, 0]) (fun _ => rfl) (fun s19 y20 => (tg_name rfl)) (fun s19 y20 => (sk_last (sk_if' ((tv_of (ev_bin (ea := D.int) (eb := D.int) (ec := D.bl) (fun a21 b22 => some (decide (b22 < a21))) op_gt (Ev.rv (ev_var (ea := D.int) 3 s19.2 rfl)) (Ev.rv (ev_c (ea := D.int) (0 : Int) rfl)))) : Tv _ _ (some (decide ((0 : Int) < s19.2)))) (sk_assoc (sk_app' (e := D.int) (S1 := fun row23 => [.val (D.scr ns), .own ((oL D.int) row23), .val (D.int y6), .val (D.int s19.2), .val (D.int y20), .any]) 1 rfl ((ev_modR (by decide) (Ev.rv (ev_var (ea := D.int) 3 s19.2 rfl)) (Ev.rv (ev_c (ea := D.int) (1009 : Int) rfl))) : Ev _ _ _ (some (s19.2 % (1009 : Int)))) (fun _ => rfl) (fun row23 => (sk_set' (S1 := [.val (D.scr ns), .own ((oL D.int) row23), .val (D.int y6), .val (D.int (s19.2 / (1009 : Int))), .val (D.int y20), .any]) 3 ((ev_divR (divOk_iff.mpr (by decide)) (Ev.rv (ev_var (ea := D.int) 3 s19.2 rfl)) (Ev.rv (ev_c (ea := D.int) (1009 : Int) rfl))) : Ev _ _ D.int (some (s19.2 / (1009 : Int)))) rfl (sk_lp _ rfl (wk_of _ [0, 0, 0, 0, 1, 0])))))) (sk_nilSeq (sk_lp _ rfl (wk_of _ [0, 0, 0, 0, 1, 0])))))) (fun s24 => (sk_lp _ rfl (wk_of _ [0, 0, 1, 1, 0, 0])))) (sk_assoc (sk_set' (S1 := [.val (D.scr ns), .own ((oL D.int) s5), .val (D.int y6), .val (D.int ((((v13 % (2147483629 : Int)) * (48271 : Int)) + (y6 * (69621 : Int))) + (11 : Int))), .any, .any]) 3 ((ev_bin (ea := D.int) (eb := D.int) (ec := D.int) (fun a28 b29 => some (a28 + b29)) op_add (Ev.rv (ev_bin (ea := D.int) (eb := D.int) (ec := D.int) (fun a26 b27 => some (a26 + b27)) op_add (Ev.rv (ev_mulR (smallM_iff.mpr (by decide)) (Ev.rv (ev_modR (by decide) (Ev.rv (ev_var (ea := D.int) 3 v13 rfl)) (Ev.rv (ev_c (ea := D.int) (2147483629 : Int) rfl)))) (Ev.rv (ev_c (ea := D.int) (48271 : Int) rfl)))) (Ev.rv (ev_mulR (smallM_iff.mpr (by decide)) (Ev.rv (ev_var (ea := D.int) 2 y6 rfl)) (Ev.rv (ev_c (ea := D.int) (69621 : Int) rfl)))))) (Ev.rv (ev_c (ea := D.int) (11 : Int) rfl))) : Ev _ _ D.int (some ((((v13 % (2147483629 : Int)) * (48271 : Int)) + (y6 * (69621 : Int))) + (11 : Int)))) rfl (sk_forM (σ := (List Int) × Int) (S := fun s30 => [.val (D.scr ns), .own ((oL D.int) s30.1), .val (D.int y6), .val (D.int s30.2), .any, .any]) (C := fun s30 => none) (S1 := fun s30 y31 => [.val (D.scr ns), .own ((oL D.int) s30.1), .val (D.int y6), .val (D.int s30.2), .val (D.int y31), .any]) (fun _ => (s5, (((v13 % (2147483629 : Int)) * (48271 : Int)) + (y6 * (69621 : Int))) + (11 : Int))) (ig_iv (e := D.int) (ivE (iv_rg (Ev.rv (ev_c (ea := D.int) (5 : Int) rfl))) (by simp -implicitDefEqProofs only [Option.bind_some, Option.bind_fun_some]) : Iv _ _ _ (rg (5 : Int)))) (fun _ => wk_of _ [0, 0, 0, 0, 0, 0]) (fun _ => rfl) (fun s30 y31 => (tg_name rfl)) (fun s30 y31 => (sk_set' (S1 := [.val (D.scr ns), .own ((oL D.int) s30.1), .val (D.int y6), .val (D.int ((((s30.2 * (16807 : Int)) + (12345 : Int)) + y31) % (2147483647 : Int))), .val (D.int y31), .any]) 3 ((ev_modR (by decide) (Ev.rv (ev_bin (ea := D.int) (eb := D.int) (ec := D.int) (fun a34 b35 => some (a34 + b35)) op_add (Ev.rv (ev_bin (ea := D.int) (eb := D.int) (ec := D.int) (fun a32 b33 => some (a32 + b33)) op_add (Ev.rv (ev_mulR (smallM_iff.mpr (by decide)) (Ev.rv (ev_var (ea := D.int) 3 s30.2 rfl)) (Ev.rv (ev_c (ea := D.int) (16807 : Int) rfl)))) (Ev.rv (ev_c (ea := D.int) (12345 : Int) rfl)))) (Ev.rv (ev_var (ea := D.int) 4 y31 rfl)))) (Ev.rv (ev_c (ea := D.int) (2147483647 : Int) rfl))) : Ev _ _ D.int (some ((((s30.2 * (16807 : Int)) + (12345 : Int)) + y31) % (2147483647 : Int)))) rfl (sk_last (sk_app' (e := D.int) (S1 := fun row36 => [.val (D.scr ns), .own ((oL D.int) row36), .val (D.int y6), .val (D.int ((((s30.2 * (16807 : Int)) + (12345 : Int)) + y31) % (2147483647 : Int))), .val (D.int y31), .any]) 1 rfl ((ev_modR (by decide) (Ev.rv (ev_divR (divOk_iff.mpr (by decide)) (Ev.rv (ev_var (ea := D.int) 3 ((((s30.2 * (16807 : Int)) + (12345 : Int)) + y31) % (2147483647 : Int)) rfl)) (Ev.rv (ev_c (ea := D.int) (7 : Int) rfl)))) (Ev.rv (ev_c (ea := D.int) (1009 : Int) rfl))) : Ev _ _ _ (some ((((((s30.2 * (16807 : Int)) + (12345 : Int)) + y31) % (2147483647 : Int)) / (7 : Int)) % (1009 : Int)))) (fun _ => rfl) (fun row36 => (sk_lp _ rfl (wk_of _ [0, 0, 0, 0, 1, 0]))))))) (fun s37 => (sk_lp _ rfl (wk_of _ [0, 0, 1, 1, 0, 0]))))))))))) (fun s40 => (sk_frz (S1 := [.val (D.scr ns), .val ((eL D.int) s40), .any, .any, .any, .any]) 1 rfl rfl rfl (sk_last (sk_set' (S1 := [.val (D.scr ns), .val ((eL D.int) s40), .any, .any, .any, .val (D.int (s40.sum + (len ns)))]) 5 ((ev_bin (ea := D.int) (eb := D.int) (ec := D.int) (fun a43 b44 => some (a43 + b44)) op_add (Ev.rv (ev_un (ea := (eL D.int)) (eb := D.int) (fun a41 => some a41.sum) op_sumL (Ev.rv (ev_var (ea := (eL D.int)) 1 s40 rfl)))) (Ev.rv (ev_un (ea := D.scr) (eb := D.int) (fun a42 => some (len a42)) op_lenS (Ev.rv (ev_var (ea := D.scr) 0 ns rfl))))) : Ev _ _ D.int (some (s40.sum + (len ns)))) rfl (sk_nx _ rfl (wk_of _ [1, 0, 1, 1, 1, 0])))))))))
noncomputable def b__law_take : Sx :=
  (sSeq (sSet 2 (eBin gIx (eBin gIx (eV 0) (eC (.int 1))) (eC (.int 0))))
    (sSeq (sPutL (eBin gIx (eV 0) (eC (.int 1))) (eC (.int 0)) (eBin (g2 opAdd) (eV 2) (eC (.int 1))))
    (sSeq (sIf (tOf (eBin (g2 opLt) (eV 2) (eUn opLen (eBin gIx (eV 0) (eC (.int 0)))))) (sRet (eBin (g2 opMod) (eBin gIx (eBin gIx (eV 0) (eC (.int 0))) (eV 2)) (eV 1))) sNil)
    (sRet (eBin (g2 opMod) (eBin (g2 opDiv) (eBin (g2 opAdd) (eBin (g2 opAdd) (eBin (g2 opMulA) (eV 2) (eC (.int 7919))) (eBin (g2 opMulA) (eBin gIx (eV 0) (eC (.int 2))) (eC (.int 31)))) (eBin (g2 opMulA) (eBin (g2 opMulA) (eV 2) (eV 2)) (eC (.int 17)))) (eC (.int 3))) (eV 1))))))
noncomputable def m__law_take : Fx := fnD 2 1 b__law_take
noncomputable def b__law_bool : Sx :=
  (sRet (eAnd (eIsi "bool" (eV 0)) (eBin (g2 opEqA) (eV 0) (eV 1))))
noncomputable def m__law_bool : Fx := fnD 2 0 b__law_bool
def t__law_bool (answer : Bool) (due : Bool) : Option Bool :=
  some (true && (decide (answer = due)))
theorem l__law_bool (answer : Bool) (due : Bool) : Fp (m__law_bool) [.x (D.bl answer), .x (D.bl due)] D.bl (t__law_bool answer due) := by
  unfold m__law_bool t__law_bool b__law_bool
  exact fp_body (s := [.val (D.bl answer), .val (D.bl due)]) rfl rfl (sk_last (sk_ret' _ ((ev_and' (ev_isi "bool" "bool" true (by decide) (fun _ => rfl) (Ev.rv (ev_var (ea := D.bl) 0 answer rfl))) (ev_bin (ea := D.bl) (eb := D.bl) (ec := D.bl) (fun a1 b2 => some (decide (a1 = b2))) (op_eq bl_eqE) (Ev.rv (ev_var (ea := D.bl) 0 answer rfl)) (Ev.rv (ev_var (ea := D.bl) 1 due rfl)))) : Ev _ _ _ (some (true && (decide (answer = due))))) rfl))
noncomputable def b__law_same (rec : Fx) : Sx :=
  (sSeq (sIf (tOrM (tOf (eIsi "tuple" (eV 1))) (tOf (eIsi "list" (eV 1)))) (sSeq (sIf (tOrM (tAndM (tOf (eIsi "tuple" (eV 1))) (tNotM (tOf (eIsi "tuple" (eV 0))))) (tAndM (tOf (eIsi "list" (eV 1))) (tNotM (tOf (eIsi "list" (eV 0)))))) (sRet (eC (.bl false))) sNil)
    (sSeq (sIf (tOf (eBin (g2 opNeA) (eUn opLen (eV 0)) (eUn opLen (eV 1)))) (sRet (eC (.bl false))) sNil)
    (sSeq (sFor (iRange1 (eUn opLen (eV 1))) (tgName 2) (sIf (tNotM (tOf (eCall rec (aCons (eBin gIx (eV 0) (eV 2)) (aCons (eBin gIx (eV 1) (eV 2)) aNil))))) (sRet (eC (.bl false))) sNil))
    (sRet (eC (.bl true)))))) sNil)
    (sSeq (sIf (tOrM (tOf (eIsi "bool" (eV 0))) (tOf (eIsi "bool" (eV 1)))) (sRet (eAnd (eIsi "bool" (eV 0)) (eAnd (eIsi "bool" (eV 1)) (eBin (g2 opEqA) (eV 0) (eV 1))))) sNil)
    (sSeq (sIf (tOf (eIsi "int" (eV 1))) (sRet (eAnd (eIsi "int" (eV 0)) (eBin (g2 opEqA) (eV 0) (eV 1)))) sNil)
    (sSeq (sIf (tOf (eIsi "str" (eV 1))) (sRet (eAnd (eIsi "str" (eV 0)) (eBin (g2 opEqA) (eV 0) (eV 1)))) sNil)
    (sRet (eAnd (eBin (g2 opIsN) (eV 0) (eC .non)) (eBin (g2 opIsN) (eV 1) (eC .non))))))))
noncomputable def m__law_same : Nat → Fx
  | 0 => fNone
  | n + 1 => fnD 2 1 (b__law_same (m__law_same n))
def t__law_same : Nat → D → D → Option Bool
  | 0, _, _ => none
  | n + 1, a, b => ((isiD "tuple" b).bind fun x1 => if x1 = true then some true else isiD "list" b).bind fun b50 => if b50 = true then (((isiD "tuple" b).bind fun x3 => if x3 = true then (isiD "tuple" a).bind fun x2 => some (!x2) else some false).bind fun x6 => if x6 = true then some true else (isiD "list" b).bind fun x5 => if x5 = true then (isiD "list" a).bind fun x4 => some (!x4) else some false).bind fun b30 => if b30 = true then some false else ((lenD a).bind fun x11 => (lenD b).bind fun x12 => some (!decide (x11 = x12))).bind fun b29 => if b29 = true then some false else ((lenD b).bind fun x14 => rg x14).bind fun l28 => (lpX (fun (s15 : Unit) y16 => (((((opIx a (.int y16)).bind fun x22 => ((opIx b (.int y16)).bind fun x21 => some (x21, ())).bind fun q23 => some (x22, q23)).bind fun q24 => t__law_same n q24.1 q24.2.1).bind fun x25 => some (!x25)).bind fun b26 => if b26 = true then some (Fx'.rt false) else some (Fx'.nx ()) : Option (Fx' (Unit) Bool))) l28 ()).bind (TL.behind (fun s27 => some true) (fun r => r)) else ((isiD "bool" a).bind fun x31 => if x31 = true then some true else isiD "bool" b).bind fun b49 => if b49 = true then (isiD "bool" a).bind fun x35 => if x35 = true then (isiD "bool" b).bind fun x34 => if x34 = true then eqD (id a) (id b) else some false else some false else (isiD "int" b).bind fun b48 => if b48 = true then (isiD "int" a).bind fun x38 => if x38 = true then eqD (id a) (id b) else some false else (isiD "str" b).bind fun b47 => if b47 = true then (isiD "str" a).bind fun x41 => if x41 = true then eqD (id a) (id b) else some false else (isNoneD a).bind fun x46 => if x46 = true then isNoneD b else some false
theorem l__law_same : ∀ (n : Nat) (a : D) (b : D), Fp (m__law_same n) [.x (id a), .x (id b)] D.bl (t__law_same n a b)
  | 0, _, _ => fun ck m es h a q => nomatch q
  | n + 1, a, b => by
    have ih := l__law_same n
    show Fp (m__law_same (n + 1)) [.x (id a), .x (id b)] D.bl (t__law_same (n + 1) a b)
    unfold m__law_same t__law_same b__law_same
    exact fp_body (s := [.val (id a), .val (id b), .any]) rfl rfl (sk_if (tvE (tv_or (tv_of (ev_isiD "tuple" (Ev.rv (ev_var (ea := id) 1 b rfl)))) (tv_of (ev_isiD "list" (Ev.rv (ev_var (ea := id) 1 b rfl))))) (by simp -implicitDefEqProofs only [Option.bind_some, Option.bind_fun_some]) : Tv _ _ ((isiD "tuple" b).bind fun x1 => if x1 = true then some true else isiD "list" b)) (sk_assoc (sk_if (tvE (tv_or (tv_and (tv_of (ev_isiD "tuple" (Ev.rv (ev_var (ea := id) 1 b rfl)))) (tv_not (tv_of (ev_isiD "tuple" (Ev.rv (ev_var (ea := id) 0 a rfl)))))) (tv_and (tv_of (ev_isiD "list" (Ev.rv (ev_var (ea := id) 1 b rfl)))) (tv_not (tv_of (ev_isiD "list" (Ev.rv (ev_var (ea := id) 0 a rfl))))))) (by simp -implicitDefEqProofs only [Option.bind_some, Option.bind_fun_some]) : Tv _ _ (((isiD "tuple" b).bind fun x3 => if x3 = true then (isiD "tuple" a).bind fun x2 => some (!x2) else some false).bind fun x6 => if x6 = true then some true else (isiD "list" b).bind fun x5 => if x5 = true then (isiD "list" a).bind fun x4 => some (!x4) else some false)) (sk_ret' _ ((ev_c (ea := D.bl) false rfl) : Ev _ _ _ (some false)) rfl) (sk_nilSeq (sk_assoc (sk_if (tvE (tv_of (ev_bin (ea := D.int) (eb := D.int) (ec := D.bl) (fun a9 b10 => some (!decide (a9 = b10))) (op_ne (PyE.eq pyE_int)) (Ev.rv (ev_un (ea := id) (eb := D.int) (fun a7 => lenD a7) op_lenAny (Ev.rv (ev_var (ea := id) 0 a rfl)))) (Ev.rv (ev_un (ea := id) (eb := D.int) (fun a8 => lenD a8) op_lenAny (Ev.rv (ev_var (ea := id) 1 b rfl)))))) (by simp -implicitDefEqProofs only [Option.bind_some, Option.bind_fun_some]) : Tv _ _ ((lenD a).bind fun x11 => (lenD b).bind fun x12 => some (!decide (x11 = x12)))) (sk_ret' _ ((ev_c (ea := D.bl) false rfl) : Ev _ _ _ (some false)) rfl) (sk_nilSeq (sk_assoc (sk_forX (σ := Unit) (ρ' := Bool) (R := fun r => r) (S := fun s15 => [.val (id a), .val (id b), .any]) (C := fun s15 => none) (S1 := fun s15 y16 => [.val (id a), .val (id b), .val (D.int y16)]) (fun _ => ()) (fun _ => by exact trivial) (ig_iv (e := D.int) (ivE (iv_rg (Ev.rv (ev_un (ea := id) (eb := D.int) (fun a13 => lenD a13) op_lenAny (Ev.rv (ev_var (ea := id) 1 b rfl))))) (by simp -implicitDefEqProofs only [Option.bind_some, Option.bind_fun_some]) : Iv _ _ _ ((lenD b).bind fun x14 => rg x14))) (fun _ => wk_of _ [0, 0, 0]) (fun _ => rfl) (fun s15 y16 => (tg_name rfl)) (fun s15 y16 => (sk_last (sk_if (tvE (tv_not (tv_of (ev_call (ea := D.bl) (t := fun (p : (D × D × Unit)) => t__law_same n p.1 p.2.1) (fun (p : (D × D × Unit)) => (ih p.1 p.2.1)) (cv_x (ev_ix (ea := id) (eb := D.int) (ec := id) (fun a17 b18 => opIx a17 (.int b18)) (fun _ _ _ h => h) (Ev.rv (ev_var (ea := id) 0 a rfl)) (Ev.rv (ev_var (ea := D.int) 2 y16 rfl))) (cv_x (ev_ix (ea := id) (eb := D.int) (ec := id) (fun a19 b20 => opIx a19 (.int b20)) (fun _ _ _ h => h) (Ev.rv (ev_var (ea := id) 1 b rfl)) (Ev.rv (ev_var (ea := D.int) 2 y16 rfl))) cv_nil))))) (by simp -implicitDefEqProofs only [Option.bind_some, Option.bind_fun_some]) : Tv _ _ ((((opIx a (.int y16)).bind fun x22 => ((opIx b (.int y16)).bind fun x21 => some (x21, ())).bind fun q23 => some (x22, q23)).bind fun q24 => t__law_same n q24.1 q24.2.1).bind fun x25 => some (!x25))) (sk_ret' _ ((ev_c (ea := D.bl) false rfl) : Ev _ _ _ (some false)) rfl) (sk_nilSeq (sk_lp _ rfl (wk_of _ [0, 0, 1])))))) (fun s27 => (sk_ret' _ ((ev_c (ea := D.bl) true rfl) : Ev _ _ _ (some true)) rfl)))))))))) (sk_nilSeq (sk_if (tvE (tv_or (tv_of (ev_isiD "bool" (Ev.rv (ev_var (ea := id) 0 a rfl)))) (tv_of (ev_isiD "bool" (Ev.rv (ev_var (ea := id) 1 b rfl))))) (by simp -implicitDefEqProofs only [Option.bind_some, Option.bind_fun_some]) : Tv _ _ ((isiD "bool" a).bind fun x31 => if x31 = true then some true else isiD "bool" b)) (sk_ret0 (evE (ev_and (ev_isiD "bool" (Ev.rv (ev_var (ea := id) 0 a rfl))) (ev_and (ev_isiD "bool" (Ev.rv (ev_var (ea := id) 1 b rfl))) (ev_bin (ea := id) (eb := id) (ec := D.bl) (fun a32 b33 => eqD (id a32) (id b33)) op_eqD (Ev.rv (ev_var (ea := id) 0 a rfl)) (Ev.rv (ev_var (ea := id) 1 b rfl))))) (by simp -implicitDefEqProofs only [Option.bind_some, Option.bind_fun_some]) : Ev _ _ _ ((isiD "bool" a).bind fun x35 => if x35 = true then (isiD "bool" b).bind fun x34 => if x34 = true then eqD (id a) (id b) else some false else some false)) (fun _ => rfl)) (sk_nilSeq (sk_if (tvE (tv_of (ev_isiD "int" (Ev.rv (ev_var (ea := id) 1 b rfl)))) (by simp -implicitDefEqProofs only [Option.bind_some, Option.bind_fun_some]) : Tv _ _ (isiD "int" b)) (sk_ret0 (evE (ev_and (ev_isiD "int" (Ev.rv (ev_var (ea := id) 0 a rfl))) (ev_bin (ea := id) (eb := id) (ec := D.bl) (fun a36 b37 => eqD (id a36) (id b37)) op_eqD (Ev.rv (ev_var (ea := id) 0 a rfl)) (Ev.rv (ev_var (ea := id) 1 b rfl)))) (by simp -implicitDefEqProofs only [Option.bind_some, Option.bind_fun_some]) : Ev _ _ _ ((isiD "int" a).bind fun x38 => if x38 = true then eqD (id a) (id b) else some false)) (fun _ => rfl)) (sk_nilSeq (sk_if (tvE (tv_of (ev_isiD "str" (Ev.rv (ev_var (ea := id) 1 b rfl)))) (by simp -implicitDefEqProofs only [Option.bind_some, Option.bind_fun_some]) : Tv _ _ (isiD "str" b)) (sk_ret0 (evE (ev_and (ev_isiD "str" (Ev.rv (ev_var (ea := id) 0 a rfl))) (ev_bin (ea := id) (eb := id) (ec := D.bl) (fun a39 b40 => eqD (id a39) (id b40)) op_eqD (Ev.rv (ev_var (ea := id) 0 a rfl)) (Ev.rv (ev_var (ea := id) 1 b rfl)))) (by simp -implicitDefEqProofs only [Option.bind_some, Option.bind_fun_some]) : Ev _ _ _ ((isiD "str" a).bind fun x41 => if x41 = true then eqD (id a) (id b) else some false)) (fun _ => rfl)) (sk_nilSeq (sk_last (sk_ret0 (evE (ev_and (ev_bin (ea := id) (eb := eU) (ec := D.bl) (fun a42 b43 => isNoneD a42) op_isND (Ev.rv (ev_var (ea := id) 0 a rfl)) (Ev.rv (ev_c (ea := eU) () rfl))) (ev_bin (ea := id) (eb := eU) (ec := D.bl) (fun a44 b45 => isNoneD a44) op_isND (Ev.rv (ev_var (ea := id) 1 b rfl)) (Ev.rv (ev_c (ea := eU) () rfl)))) (by simp -implicitDefEqProofs only [Option.bind_some, Option.bind_fun_some]) : Ev _ _ _ ((isNoneD a).bind fun x46 => if x46 = true then isNoneD b else some false)) (fun _ => rfl)))))))))))
/-! the deal -/
theorem intsOf_map : ∀ xs : List Int, intsOf (xs.map D.int) = some xs
  | [] => rfl
  | x :: xs => by
    show (intsOf (xs.map D.int)).map _ = _
    rw [intsOf_map xs]
    rfl
theorem eV_at {ρ : Rho} {m : Store} {i : Nat} {x : E} (h : (ρ[i]?).join = some x) : eV i ρ m = some (x, m) := by
  unfold eV
  rw [join_some h]
theorem fin_deal {m : Store} {o : O} {row : List Int} {t : Int} : fin 0 (m ++ [o]) (.deal row m.length t) = some (.deal row 0 t, [o]) := by
  unfold fin
  simp
theorem deal_run {ns row : List Int} {tot : Int} (h : t__law_deal ns = some (row, tot)) : m__law_deal [.d (.scr ns)] [] = some (.deal row 0 tot, [ckO 0]) := by
  have rel := rel_start (as := [.x (.scr ns)]) (es := [.d (.scr ns)]) 5 (ck := none) (m := []) ⟨Nat.le_refl _, fun _ _ _ => rfl, fun _ h => nomatch h⟩ ⟨rfl, trivial⟩
  obtain ⟨⟨fl, ρ', m'⟩, h1, h2⟩ := l__law_deal ns [] _ [] rel _ h
  obtain ⟨hf, r⟩ : fl = .nx ∧ Rel [] none _ ρ' m' := h2
  subst hf
  obtain ⟨cs, _, _, h3⟩ := r.ex
  have e1 : (ρ'[1]?).join = some (.d (eL D.int row)) := h3 1 _ rfl
  have e5 : (ρ'[5]?).join = some (.d (.int tot)) := h3 5 _ rfl
  have hl : eLstO (aCons (eC (.int 0)) aNil) ρ' m' = some (.own m'.length, m' ++ [.lst [.int 0]]) := rfl
  unfold m__law_deal fnD
  refine (if_pos rfl).trans ?_
  rw [deal_split]
  unfold sSeq
  rw [h1]
  show ((sRet (eDeal _ _ _) ρ' m').bind _) = _
  unfold sRet eDeal
  rw [eV_at e1]
  simp only [Option.bind_some, hl, eV_at (m := m' ++ [O.lst [.int 0]]) e5]
  show ((((intsOf (row.map D.int)).bind _)).bind _).bind _ = _
  rw [intsOf_map]
  exact fin_deal
/-! drawing -/
@[irreducible] def drawn (row : List Int) (tot n c : Int) : Option Int :=
  if decide (c < len row) = true then (atI row c).bind fun x => modG x n else (mulG c c).bind fun q => modG ((c * 7919 + tot * 31 + q * 17) / 3) n
def t__law_take (row : List Int) (tot n c : Int) : Option (Int × Int) := (drawn row tot n c).bind fun v => some (v, c + 1)
theorem ev_deal0 {row : List Int} {tot : Int} {s : List Sl} (h : s[0]? = some (.deal row tot)) : Ev (eBin gIx (eV 0) (eC (.int 0))) s (eL D.int) (some row) := fun b ck ρ m r a q => by
  cases q
  obtain ⟨cs, _, _, h3⟩ := r.ex
  have e0 : (ρ[0]?).join = some (.deal row 0 tot) := h3 0 _ h
  unfold eBin
  rw [eV_at e0]
  rfl
theorem ev_deal2 {row : List Int} {tot : Int} {s : List Sl} (h : s[0]? = some (.deal row tot)) : Ev (eBin gIx (eV 0) (eC (.int 2))) s D.int (some tot) := fun b ck ρ m r a q => by
  cases q
  obtain ⟨cs, _, _, h3⟩ := r.ex
  have e0 : (ρ[0]?).join = some (.deal row 0 tot) := h3 0 _ h
  unfold eBin
  rw [eV_at e0]
  rfl
theorem seq_eq {f g : Sx} {ρ ρ' : Rho} {m m' : Store} (h : f ρ m = some (.nx, ρ', m')) : sSeq f g ρ m = g ρ' m' := by
  unfold sSeq
  rw [h]
  rfl
theorem l__law_take (row : List Int) (tot n c : Int) : Fd m__law_take [.deal row tot, .x (D.int n)] D.int c (t__law_take row tot n c) := by
  intro m es h0 ha a c' q
  have he : es = [.deal row 0 tot, .d (.int n)] := by
    match es, ha with
    | [e1, e2], ⟨h1, h2, _⟩ => have h1 : e1 = _ := h1; have h2 : e2 = _ := h2; rw [h1, h2]
  subst he
  have hl : 0 < m.length := (List.getElem?_eq_some_iff.mp h0).1
  have lk : look m (.own 0) = some (.lst [.int c]) := look_own h0
  unfold m__law_take fnD
  refine (if_pos rfl).trans ?_
  unfold b__law_take
  have s1 : sSet 2 (eBin gIx (eBin gIx (eV 0) (eC (.int 1))) (eC (.int 0))) [some (.deal row 0 tot), some (.d (.int n)), none] m = some (.nx, [some (.deal row 0 tot), some (.d (.int n)), some (.d (.int c))], m) := by
    unfold sSet sAsg eBin eV eC gIx
    show ((((look m (.own 0)).bind _).bind _)) = _
    rw [lk]
    rfl
  have s2 : sPutL (eBin gIx (eV 0) (eC (.int 1))) (eC (.int 0)) (eBin (g2 opAdd) (eV 2) (eC (.int 1))) [some (.deal row 0 tot), some (.d (.int n)), some (.d (.int c))] m = some (.nx, [some (.deal row 0 tot), some (.d (.int n)), some (.d (.int c))], m.set 0 (ckO (c + 1))) := by
    unfold sPutL
    show ((cellL m 0).bind _) = _
    unfold cellL
    rw [h0]
    rfl
  show ((sSeq _ _ [some (.deal row 0 tot), some (.d (.int n)), none] m).bind _) = _
  rw [seq_eq s1, seq_eq s2]
  have h0' : (m.set 0 (ckO (c + 1)))[0]? = some (ckO (c + 1)) := List.getElem?_set_self hl
  have rel : Rel (m.set 0 (ckO (c + 1))) (some (c + 1)) [.deal row tot, .val (D.int n), .val (D.int c)] [some (.deal row 0 tot), some (.d (.int n)), some (.d (.int c))] (m.set 0 (ckO (c + 1))) :=
    rel_start (as := [.deal row tot, .x (.int n), .x (.int c)]) (es := [.deal row 0 tot, .d (.int n), .d (.int c)]) 0 ⟨Nat.le_refl _, fun _ _ _ => rfl, fun c2 h => by cases h; exact ⟨by rw [List.length_set]; exact hl, h0'⟩⟩ ⟨rfl, rfl, rfl, trivial⟩
  have vr : ∀ (i : Nat) (x : Int), ([.deal row tot, .val (D.int n), .val (D.int c)] : List Sl)[i]? = some (.val (D.int x)) → Rv (eV i) [.deal row tot, .val (D.int n), .val (D.int c)] D.int (some x) := fun i x h => Ev.rv (ev_var i x h)
  have lit : ∀ x : Int, Rv (eC (.int x)) [.deal row tot, .val (D.int n), .val (D.int c)] D.int (some x) := fun x => Ev.rv (ev_c (ea := D.int) x rfl)
  have tst : Tv (tOf (eBin (g2 opLt) (eV 2) (eUn opLen (eBin gIx (eV 0) (eC (.int 0)))))) [.deal row tot, .val (D.int n), .val (D.int c)] (some (decide (c < len row))) :=
    tv_of (ev_bin (ea := D.int) (eb := D.int) (ec := D.bl) (fun a b => some (decide (a < b))) op_lt (vr 2 c rfl) (Ev.rv (ev_un (ea := eL D.int) (eb := D.int) (fun a => some (len a)) op_lenL (Ev.rv (ev_deal0 rfl)))))
  have r1 := ev_bin (ea := D.int) (eb := D.int) (ec := D.int) (fun a b => modG a b) op_mod (Ev.rv (ev_ix (ea := eL D.int) (eb := D.int) (ec := D.int) (fun a b => atI a b) op_ixL (Ev.rv (ev_deal0 (s := [.deal row tot, .val (D.int n), .val (D.int c)]) rfl)) (vr 2 c rfl))) (vr 1 n rfl)
  have r2 := ev_bin (ea := D.int) (eb := D.int) (ec := D.int) (fun a b => modG a b) op_mod (Ev.rv (ev_divR (divOk_iff.mpr (by decide)) (Ev.rv (ev_bin (ea := D.int) (eb := D.int) (ec := D.int) (fun a b => some (a + b)) op_add
    (Ev.rv (ev_bin (ea := D.int) (eb := D.int) (ec := D.int) (fun a b => some (a + b)) op_add (Ev.rv (ev_mulR (smallM_iff.mpr (by decide)) (vr 2 c rfl) (lit 7919))) (Ev.rv (ev_mulR (smallM_iff.mpr (by decide)) (Ev.rv (ev_deal2 rfl)) (lit 31)))))
    (Ev.rv (ev_mulR (smallM_iff.mpr (by decide)) (Ev.rv (ev_bin (ea := D.int) (eb := D.int) (ec := D.int) (fun a b => mulG a b) op_mul (vr 2 c rfl) (vr 2 c rfl))) (lit 17))))) (lit 3))) (vr 1 n rfl)
  obtain ⟨v, hv, q⟩ := bnd q
  cases q
  unfold drawn at hv
  have K : Sk _ [.deal row tot, .val (D.int n), .val (D.int c)] (some (c + 1)) (fun r : Int × Int => .rt (D.int r.1) (some r.2)) _ := sk_if' (g := sRet (eBin (g2 opMod) (eBin (g2 opDiv) (eBin (g2 opAdd) (eBin (g2 opAdd) (eBin (g2 opMulA) (eV 2) (eC (.int 7919))) (eBin (g2 opMulA) (eBin gIx (eV 0) (eC (.int 2))) (eC (.int 31)))) (eBin (g2 opMulA) (eBin (g2 opMulA) (eV 2) (eV 2)) (eC (.int 17)))) (eC (.int 3))) (eV 1))) tst (sk_ret (fun a : Int => (a, c + 1)) r1 (fun _ => rfl)) (sk_nilSeq (sk_last (sk_ret (fun a : Int => (a, c + 1)) r2 (fun _ => rfl))))
  obtain ⟨⟨fl, ρ', m'⟩, h1, e', h2, h3, h4⟩ := K _ _ _ rel (a, c + 1) (by
    split at hv <;> rename_i hc
    · rw [if_pos hc]
      obtain ⟨x, hx, hv⟩ := bnd hv
      simp only [hx, hv, Option.bind_some]
    · rw [if_neg hc]
      obtain ⟨x, hx, hv⟩ := bnd hv
      simp only [hx, hv, Option.bind_some])
  have h2 : fl = _ := h2
  subst h2
  rw [h1]
  show fin m.length m' e' = _
  have := fin_eq h4
  rw [List.length_set] at this
  rw [this]
  have := take_baseD h3
  rw [List.length_set, List.set_set] at this
  rw [this]
theorem atI_some {α : Type} {xs : List α} {i : Int} (h : 0 ≤ i ∧ i < len xs) : ∃ x, atI xs i = some x := by
  unfold atI ixN
  have h2 : i < (xs.length : Int) := h.2
  rw [if_pos h.1, if_pos h2]
  exact ⟨_, List.getElem?_eq_getElem (by omega)⟩
theorem take_spec {row : List Int} {tot n c : Int} (hn : 0 < n) (h0 : 0 ≤ c) (h1 : c ≤ 1000000000) : ∃ v, 0 ≤ v ∧ v < n ∧ t__law_take row tot n c = some (v, c + 1) := by
  unfold t__law_take drawn
  by_cases hc : c < len row
  · rw [if_pos (decide_eq_true hc)]
    have : ∃ x, atI row c = some x := atI_some ⟨h0, hc⟩
    obtain ⟨x, e⟩ := this
    rw [e, Option.bind_some, modG_eq hn, Option.bind_some]
    exact ⟨_, Int.emod_nonneg _ (by omega), Int.emod_lt_of_pos _ hn, rfl⟩
  · rw [if_neg (by simpa using hc), mulG_l ⟨by omega, by omega⟩, Option.bind_some, modG_eq hn, Option.bind_some]
    exact ⟨_, Int.emod_nonneg _ (by omega), Int.emod_lt_of_pos _ hn, rfl⟩
/-! plain reasoning on typed programs -/
def W {α : Type} (o : Option α) (Q : α → Prop) : Prop := ∃ a, o = some a ∧ Q a
section
variable {α β σ ρ τ : Type} {Q : β → Prop} {P : α → Prop}
theorem w_some {b : β} (h : Q b) : W (some b) Q := ⟨b, rfl, h⟩
theorem w_bind {o : Option α} {f : α → Option β} (h : W o P) (g : ∀ a, P a → W (f a) Q) : W (o.bind f) Q := by
  obtain ⟨a, rfl, p⟩ := h
  exact g a p
theorem w_eq {o : Option α} {f : α → Option β} {a : α} (h : o = some a) (g : W (f a) Q) : W (o.bind f) Q := by
  subst h
  exact g
theorem w_mono {o : Option α} {P' : α → Prop} (h : W o P) (g : ∀ a, P a → P' a) : W o P' := by
  obtain ⟨a, e, p⟩ := h
  exact ⟨a, e, g a p⟩
theorem w_lpM {f : σ → α → Option σ} {xs : List α} {s : σ} (I : Nat → σ → Prop) (h0 : I 0 s) (hs : ∀ i x s, xs[i]? = some x → I i s → W (f s x) (I (i + 1))) : W (lpM f xs s) (I xs.length) := by
  induction xs generalizing s I with
  | nil => exact ⟨s, rfl, h0⟩
  | cons x xs ih =>
    refine w_bind (hs 0 x s rfl h0) fun s' h' => ?_
    exact ih (fun i => I (i + 1)) h' fun i y t hy hi => hs (i + 1) y t (by simpa using hy) hi
/-- a loop with ways out: what holds at its end, at a break, at a return -/
def XQ (N B : σ → Prop) (R : ρ → Prop) : Fx' σ ρ → Prop
  | .nx s => N s
  | .bk s => B s
  | .rt r => R r
theorem w_lpX {f : σ → α → Option (Fx' σ ρ)} {xs : List α} {s : σ} (I : Nat → σ → Prop) (B : σ → Prop) (R : ρ → Prop) (h0 : I 0 s) (hs : ∀ i x s, xs[i]? = some x → I i s → W (f s x) (XQ (I (i + 1)) B R)) : W (lpX f xs s) (XQ (fun s => I xs.length s ∨ B s) (fun _ => False) R) := by
  induction xs generalizing s I with
  | nil => exact ⟨_, rfl, .inl h0⟩
  | cons x xs ih =>
    refine w_bind (hs 0 x s rfl h0) fun o h' => ?_
    cases o with
    | nx s' => exact ih (fun i => I (i + 1)) h' fun i y t hy hi => hs (i + 1) y t (by simpa using hy) hi
    | bk s' => exact ⟨_, rfl, .inr h'⟩
    | rt r => exact ⟨_, rfl, h'⟩
theorem w_behind {o : Option (Fx' σ ρ)} {T : σ → Option τ} {F : ρ → τ} {N : σ → Prop} {R : ρ → Prop} {Q : τ → Prop} (h : W o (XQ N (fun _ => False) R)) (h1 : ∀ s, N s → W (T s) Q) (h2 : ∀ r, R r → Q (F r)) : W (o.bind (TL.behind T F)) Q := by
  obtain ⟨a, rfl, p⟩ := h
  cases a with
  | nx s => exact h1 s p
  | bk s => exact p.elim
  | rt r => exact ⟨_, rfl, h2 r p⟩
theorem mpM_eq {f : α → Option β} {g : α → β} {xs : List α} (h : ∀ x ∈ xs, f x = some (g x)) : mpM f xs = some (xs.map g) := by
  induction xs with
  | nil => rfl
  | cons x xs ih =>
    show (f x).bind _ = _
    rw [h x (by simp), ih fun y hy => h y (by simp [hy])]
    rfl
theorem lcM_eq {c : α → Option Bool} {f : α → Option β} {p : α → Bool} {g : α → β} {xs : List α} (h : ∀ x ∈ xs, c x = some (p x)) (h2 : ∀ x ∈ xs, p x = true → f x = some (g x)) : lcM c f xs = some ((xs.filter p).map g) := by
  induction xs with
  | nil => rfl
  | cons x xs ih =>
    show (c x).bind _ = _
    rw [h x (by simp), Option.bind_some, ih (fun y hy => h y (by simp [hy])) (fun y hy => h2 y (by simp [hy])), List.filter_cons]
    by_cases hp : p x = true
    · rw [if_pos hp, if_pos hp, h2 x (by simp) hp]; rfl
    · rw [if_neg hp, if_neg hp]
inductive F2 {α β : Type} (R : α → β → Prop) : List α → List β → Prop
  | nil : F2 R [] []
  | cons {a : α} {b : β} {xs : List α} {ys : List β} : R a b → F2 R xs ys → F2 R (a :: xs) (b :: ys)
theorem w_mpM {f : α → Option β} {xs : List α} (R : α → β → Prop) (h : ∀ x ∈ xs, W (f x) (R x)) : W (mpM f xs) fun ys => F2 R xs ys := by
  induction xs with
  | nil => exact ⟨[], rfl, .nil⟩
  | cons x xs ih =>
    obtain ⟨y, e, r⟩ := h x (by simp)
    obtain ⟨ys, es, rs⟩ := ih fun y hy => h y (by simp [hy])
    refine ⟨y :: ys, ?_, .cons r rs⟩
    show (f x).bind _ = _
    rw [e, Option.bind_some, es]
    rfl
theorem rg_get {n : Int} {i : Nat} {x : Int} (h : (rgI 0 n.toNat)[i]? = some x) : x = i ∧ (i : Int) < n := by
  unfold rgI at h
  rw [List.getElem?_map] at h
  obtain ⟨j, h1, rfl⟩ := Option.map_eq_some_iff.mp h
  obtain ⟨hl, h2⟩ := List.getElem?_eq_some_iff.mp h1
  rw [List.length_range] at hl
  rw [List.getElem_range] at h2
  subst h2
  exact ⟨by omega, by omega⟩
theorem rgI_len (a : Int) (n : Nat) : (rgI a n).length = n := by unfold rgI; simp
theorem mem_rg {n x : Int} : x ∈ rgI 0 n.toNat ↔ 0 ≤ x ∧ x < n := by
  unfold rgI
  simp only [List.mem_map, List.mem_range]
  constructor
  · rintro ⟨i, h, rfl⟩; omega
  · rintro ⟨h1, h2⟩; exact ⟨x.toNat, by omega, by omega⟩
theorem mem_rg2 {a n x : Int} : x ∈ rgI a (n - a).toNat ↔ a ≤ x ∧ x < n := by
  unfold rgI
  simp only [List.mem_map, List.mem_range]
  constructor
  · rintro ⟨i, h, rfl⟩; omega
  · rintro ⟨h1, h2⟩; exact ⟨(x - a).toNat, by omega, by omega⟩
end
theorem w_val {α : Type} {o : Option α} {a : α} (h : W o fun b => b = a) : o = some a := by
  obtain ⟨b, e, rfl⟩ := h
  exact e
theorem snoc_W {α : Type} {xs : List α} {a : α} {Q : List α → Prop} (h : xs.length + 1 ≤ 1000000) (q : Q (xs ++ [a])) : W (snoc xs a) Q := ⟨_, snoc_eq h, q⟩
theorem rg_W {β : Type} {n : Int} {f : List Int → Option β} {Q : β → Prop} (h : -1000000 ≤ n ∧ n ≤ 1000000) (q : W (f (rgI 0 n.toNat)) Q) : W ((rg n).bind f) Q := w_eq (rg_eq h) q
theorem deal_some (ns : List Int) (hn : ns.length ≤ 63) : ∃ row tot, t__law_deal ns = some (row, tot) := by
  have : W (t__law_deal ns) fun _ => True := by
    unfold t__law_deal
    refine rg_W (by unfold len; omega) ?_
    refine w_bind (w_lpM (fun i s => s.length ≤ 40 * i) (Nat.le_refl _) ?_) fun s hs => ⟨_, rfl, trivial⟩
    intro i x s hx hi
    obtain ⟨rfl, hlt⟩ := rg_get hx
    obtain ⟨v, hv⟩ := atI_some (xs := ns) (i := (i : Int)) ⟨by omega, by unfold len at *; omega⟩
    have hi63 : (i : Int) < 63 := by omega
    rw [hv]
    refine w_eq (a := absI v) rfl ?_
    generalize absI v = a
    rw [show powG (10 : Int) 18 = some (10 ^ 18) from if_pos ⟨by decide, smallM_iff.mpr (by decide)⟩]
    simp only [Option.bind_some]
    split
    · refine rg_W (by decide) ?_
      refine w_bind (w_lpM (fun j (t : List Int × Int) => t.1.length ≤ s.length + j) (Nat.le_refl _) ?_) fun t ht => ⟨_, rfl, ?_⟩
      · intro j y t hy hj
        have := (rg_get hy).2
        split
        · refine w_eq (snoc_eq (by omega)) ⟨_, rfl, ?_⟩
          simp; omega
        · exact ⟨_, rfl, by show t.1.length ≤ _; omega⟩
      · rw [rgI_len] at ht
        have : (40 : Int).toNat = 40 := rfl
        omega
    · refine rg_W (by decide) ?_
      refine w_bind (w_lpM (fun j (t : List Int × Int) => t.1.length ≤ s.length + j) (Nat.le_refl _) ?_) fun t ht => ⟨_, rfl, ?_⟩
      · intro j y t hy hj
        have := (rg_get hy).2
        refine w_eq (snoc_eq (by omega)) ⟨_, rfl, ?_⟩
        simp; omega
      · rw [rgI_len] at ht
        have : (5 : Int).toNat = 5 := rfl
        omega
  obtain ⟨⟨row, tot⟩, h, _⟩ := this
  exact ⟨row, tot, h⟩
theorem law_run {k : Nat} {b rest : Sx} {ns : List Int} {t : List Int → Int → Option (Bool × Int)} (hb : b = sSeq (sSet 1 (eCall m__law_deal (aCons (eV 0) aNil))) rest) (hn : ns.length ≤ 63)
    (h : ∀ row tot, Sk rest (.val (D.scr ns) :: .deal row tot :: List.replicate k .any) (some 0) (fun r : Bool × Int => .rt (D.bl r.1) (some r.2)) (t row tot)) (H : ∀ row tot, ∃ c, t row tot = some (true, c)) : ∃ m', fnD 1 (k + 1) b [.d (.scr ns)] [] = some (.d (.bl true), m') := by
  obtain ⟨row, tot, hd⟩ := deal_some ns hn
  obtain ⟨c, hc⟩ := H row tot
  have e1 : sSet 1 (eCall m__law_deal (aCons (eV 0) aNil)) (some (.d (.scr ns)) :: List.replicate (k + 1) none) [] = some (.nx, some (.d (.scr ns)) :: some (.deal row 0 tot) :: List.replicate k none, [ckO 0]) := by
    show (((m__law_deal [.d (.scr ns)] []).bind _)) = _
    rw [deal_run hd]
    rfl
  have rel : Rel [ckO 0] (some 0) (.val (D.scr ns) :: .deal row tot :: List.replicate k .any) (some (.d (.scr ns)) :: some (.deal row 0 tot) :: List.replicate k none) [ckO 0] :=
    rel_start (as := [.x (.scr ns), .deal row tot]) (es := [.d (.scr ns), .deal row 0 tot]) k ⟨Nat.le_refl _, fun _ _ _ => rfl, fun c2 h => by cases h; exact ⟨by decide, rfl⟩⟩ ⟨rfl, rfl, trivial⟩
  obtain ⟨⟨fl, ρ', m'⟩, h1, e', h2, h3, h4⟩ := h row tot _ _ _ rel (true, c) hc
  have h2 : fl = _ := h2
  subst h2
  unfold fnD
  refine ⟨m'.take 0, ?_⟩
  rw [if_pos (show [E.d (D.scr ns)].length = 1 from rfl)]
  show ((b (some (.d (.scr ns)) :: List.replicate (k + 1) none) []).bind _) = _
  rw [hb, seq_eq e1, h1]
  show fin 0 m' e' = _
  rcases h4 with rfl | ⟨j, rfl, hj, hl⟩
  · rfl
  · have hl : look m' (.own j) = some (.bl true) := hl
    unfold fin
    simp [hl]
end
end Lw
namespace Lw
open PySem PySem.Spec L2 PL TL
set_option autoImplicit false
noncomputable def b_meetings_of : Sx :=
  (sRet (eLc (iRange1 (eUn opLen (eBin gIx (eV 0) (eC (.int 1))))) [2] (tgName 2) (tOf (eBin (g2 opIn) (eV 1) (eBin gIx (eBin gIx (eV 0) (eC (.int 1))) (eV 2)))) (eV 2)))
noncomputable def m_meetings_of : Fx := fnD 2 1 b_meetings_of
noncomputable def b_clash : Sx :=
  (sSeq (sAsg (eBin gIx (eBin gIx (eV 0) (eC (.int 1))) (eV 1)) (tgTup [3, 4]))
    (sRet (eOr (eBin (g2 opIn) (eV 3) (eBin gIx (eBin gIx (eV 0) (eC (.int 1))) (eV 2))) (eBin (g2 opIn) (eV 4) (eBin gIx (eBin gIx (eV 0) (eC (.int 1))) (eV 2))))))
noncomputable def m_clash : Fx := fnD 3 2 b_clash
noncomputable def b_clashing : Sx :=
  (sRet (eLc (iRange1 (eUn opLen (eBin gIx (eV 0) (eC (.int 1))))) [2] (tgName 2) (tAndM (tOf (eBin (g2 opNeA) (eV 2) (eV 1))) (tOf (eCall m_clash (aCons (eV 0) (aCons (eV 1) (aCons (eV 2) aNil)))))) (eV 2)))
noncomputable def m_clashing : Fx := fnD 2 1 b_clashing
noncomputable def b_with_meeting : Sx :=
  (sRet (eTup (aCons (eBin gIx (eV 0) (eC (.int 0))) (aCons (eBin (g2 opAdd) (eBin gIx (eV 0) (eC (.int 1))) (eTup (aCons (eTup (aCons (eV 1) (aCons (eV 2) aNil))) aNil))) aNil))))
noncomputable def m_with_meeting : Fx := fnD 3 0 b_with_meeting
noncomputable def b_groupings : Sx :=
  (sSeq (sSet 1 (eLst (aCons (eTup aNil) aNil)))
    (sSeq (sFor (iRange1 (eUn opLen (eBin gIx (eV 0) (eC (.int 1))))) (tgName 2) (sSeq (sSet 3 (eLstO aNil))
    (sSeq (sSeq (sFor (iSeq (eV 1)) (tgName 4) (sSeq (sFor (iRange1 (eUn opLen (eV 4))) (tgName 5) (sIf (tOf (eBin (g2 opEqA) (eUn opLen (eLc (iSeq (eBin gIx (eV 4) (eV 5))) [7] (tgName 7) (tOf (eCall m_clash (aCons (eV 0) (aCons (eV 2) (aCons (eV 7) aNil))))) (eC (.int 1)))) (eC (.int 0)))) (sExp (eApp (eV 3) (eBin (g2 opAdd) (eBin (g2 opAdd) (eSl (eV 4) oNone (oSome (eV 5))) (eTup (aCons (eBin (g2 opAdd) (eBin gIx (eV 4) (eV 5)) (eTup (aCons (eV 2) aNil))) aNil))) (eSl (eV 4) (oSome (eBin (g2 opAdd) (eV 5) (eC (.int 1)))) oNone)))) sNil))
    (sExp (eApp (eV 3) (eBin (g2 opAdd) (eV 4) (eTup (aCons (eTup (aCons (eV 2) aNil)) aNil))))))) (sFrz 3))
    (sSet 1 (eV 3)))))
    (sSeq (sSet 6 eDicO)
    (sSeq (sSeq (sFor (iSeq (eV 1)) (tgName 4) (sPutD (eV 6) (eUn opLen (eV 4)) (eBin (g2 opAdd) (eGet2 (eV 6) (eUn opLen (eV 4)) (eC (.int 0))) (eC (.int 1))))) (sFrz 6))
    (sRet (eV 6))))))
noncomputable def m_groupings : Fx := fnD 1 7 b_groupings
noncomputable def b_group_count : Sx :=
  (sRet (eGet2 (eCall m_groupings (aCons (eV 0) aNil)) (eV 1) (eC (.int 0))))
noncomputable def m_group_count : Fx := fnD 2 0 b_group_count
noncomputable def b_plan_count : Sx :=
  (sSeq (sSet 2 (eC (.int 0)))
    (sSeq (sFor (iItemsD (eCall m_groupings (aCons (eV 0) aNil))) (tgTup [3, 4]) (sSeq (sSet 5 (eV 4))
    (sSeq (sFor (iRange1 (eV 3)) (tgName 6) (sSet 5 (eBin (g2 opMulA) (eV 5) (eBin (g2 opSub) (eV 1) (eV 6)))))
    (sSet 2 (eBin (g2 opAdd) (eV 2) (eV 5))))))
    (sRet (eV 2))))
noncomputable def m_plan_count : Fx := fnD 2 5 b_plan_count
noncomputable def b_free_days : Sx :=
  (sSeq (sSet 4 (eLc (iSeq (eCall m_meetings_of (aCons (eV 0) (aCons (eV 2) aNil)))) [5] (tgName 5) tTrue (eBin gIx (eV 1) (eV 5))))
    (sRet (eLc (iRange1 (eV 3)) [6] (tgName 6) (tOf (eBin (g2 opNotIn) (eV 6) (eV 4))) (eV 6))))
noncomputable def m_free_days : Fx := fnD 4 3 b_free_days
noncomputable def b_days_left : Sx :=
  (sSeq (sSet 4 (eLc (iSeq (eCall m_clashing (aCons (eV 0) (aCons (eV 2) aNil)))) [5] (tgName 5) (tOf (eInD (eV 5) (eV 1))) (eGetD (eV 1) (eV 5))))
    (sRet (eLc (iRange1 (eV 3)) [6] (tgName 6) (tOf (eBin (g2 opNotIn) (eV 6) (eV 4))) (eV 6))))
noncomputable def m_days_left : Fx := fnD 4 3 b_days_left
noncomputable def b_days_to_try : Sx :=
  (sSeq (sSet 4 (eLc (iKeysD (eV 1)) [6] (tgName 6) tTrue (eGetD (eV 1) (eV 6))))
    (sSeq (sSet 5 (eSl (eLc (iRange1 (eV 3)) [7] (tgName 7) (tOf (eBin (g2 opNotIn) (eV 7) (eV 4))) (eV 7)) oNone (oSome (eC (.int 1)))))
    (sRet (eLc (iSeq (eCall m_days_left (aCons (eV 0) (aCons (eV 1) (aCons (eV 2) (aCons (eV 3) aNil)))))) [7] (tgName 7) (tOrM (tOf (eBin (g2 opIn) (eV 7) (eV 4))) (tOf (eBin (g2 opIn) (eV 7) (eV 5)))) (eV 7)))))
noncomputable def m_days_to_try : Fx := fnD 4 4 b_days_to_try
noncomputable def b_with_day : Sx :=
  (sSeq (sSet 3 (eDictO (eV 0)))
    (sSeq (sSeq (sPutD (eV 3) (eV 1) (eV 2)) (sFrz 3))
    (sRet (eV 3))))
noncomputable def m_with_day : Fx := fnD 3 1 b_with_day
noncomputable def b_hardest : Sx :=
  (sSeq (sSet 3 (eLc (iRange1 (eUn opLen (eBin gIx (eV 0) (eC (.int 1))))) [4] (tgName 4) (tOf (eNotInD (eV 4) (eV 1))) (eV 4)))
    (sSeq (sIf (tOf (eBin (g2 opEqA) (eUn opLen (eV 3)) (eC (.int 0)))) (sRet (eC .non)) sNil)
    (sRet (eBin gIx (eUn (opBest PySem.W.minD) (eLc (iSeq (eV 3)) [4] (tgName 4) tTrue (eTup (aCons (eUn opLen (eCall m_days_to_try (aCons (eV 0) (aCons (eV 1) (aCons (eV 4) (aCons (eV 2) aNil)))))) (aCons (eV 4) aNil))))) (eC (.int 1))))))
noncomputable def m_hardest : Fx := fnD 3 2 b_hardest
noncomputable def b_searched (rec : Fx) : Sx :=
  (sSeq (sSet 3 (eCall m_hardest (aCons (eV 0) (aCons (eV 2) (aCons (eV 1) aNil)))))
    (sSeq (sIf (tOf (eBin (g2 opIsN) (eV 3) (eC .non))) (sRet (eTup (aCons (eV 2) (aCons (eC .non) aNil)))) sNil)
    (sSeq (sSet 4 (eCall m_days_to_try (aCons (eV 0) (aCons (eV 2) (aCons (eV 3) (aCons (eV 1) aNil))))))
    (sSeq (sIf (tOf (eBin (g2 opEqA) (eUn opLen (eV 4)) (eC (.int 0)))) (sRet (eTup (aCons (eC .non) (aCons (eTup (aCons (eC (.str ("stuck" : Str))) (aCons (eV 3) aNil))) aNil)))) sNil)
    (sSeq (sSet 5 (eLstO aNil))
    (sSeq (sSeq (sFor (iSeq (eV 4)) (tgName 6) (sSeq (sAsg (eCall rec (aCons (eV 0) (aCons (eV 1) (aCons (eCall m_with_day (aCons (eV 2) (aCons (eV 3) (aCons (eV 6) aNil)))) aNil)))) (tgTup [7, 8]))
    (sSeq (sIf (tOf (eBin (g2 opIsN) (eV 8) (eC .non))) (sRet (eTup (aCons (eV 7) (aCons (eC .non) aNil)))) sNil)
    (sExp (eApp (eV 5) (eV 8)))))) (sFrz 5))
    (sRet (eTup (aCons (eC .non) (aCons (eTup (aCons (eC (.str ("try" : Str))) (aCons (eV 3) (aCons (eUn opTuple (eV 5)) aNil)))) aNil))))))))))
noncomputable def m_searched : Nat → Fx
  | 0 => fNone
  | n + 1 => fnD 3 6 (b_searched (m_searched n))
noncomputable def b_plan_within : Sx :=
  (sSeq (sAsg (eCall (m_searched 20) (aCons (eV 0) (aCons (eV 1) (aCons eDic0 aNil)))) (tgTup [2, 3]))
    (sSeq (sIf (tOf (eBin (g2 opNotN) (eV 3) (eC .non))) (sRet (eC .non)) sNil)
    (sRet (eUn opTuple (eLc (iRange1 (eUn opLen (eBin gIx (eV 0) (eC (.int 1))))) [4] (tgName 4) tTrue (eGetD (eV 2) (eV 4)))))))
noncomputable def m_plan_within : Fx := fnD 2 3 b_plan_within
noncomputable def b__law_plain : Sx :=
  (sSeq (sSet 3 (eCall m__law_take (aCons (eV 0) (aCons (eBin (g2 opAdd) (eV 1) (eC (.int 1))) aNil))))
    (sSeq (sSet 4 (eBin (g2 opAdd) (eC (.int 1)) (eCall m__law_take (aCons (eV 0) (aCons (eC (.int 4)) aNil)))))
    (sSeq (sSet 5 (eLstO aNil))
    (sSeq (sSeq (sFor (iRange1 (eV 3)) (tgName 6) (sFor (iRange2 (eBin (g2 opAdd) (eV 6) (eC (.int 1))) (eV 3)) (tgName 7) (sIf (tAndM (tOf (eBin (g2 opLt) (eCall m__law_take (aCons (eV 0) (aCons (eC (.int 5)) aNil))) (eV 4))) (tOf (eBin (g2 opLt) (eUn opLen (eV 5)) (eV 2)))) (sExp (eApp (eV 5) (eTup (aCons (eV 6) (aCons (eV 7) aNil))))) sNil))) (sFrz 5))
    (sSeq (sSeq (sFor (iRange1 (eCall m__law_take (aCons (eV 0) (aCons (eC (.int 4)) aNil)))) (tgName 8) (sSeq (sIf (tOf (eBin (g2 opGt) (eUn opLen (eV 5)) (eC (.int 1)))) (sSeq (sSet 9 (eCall m__law_take (aCons (eV 0) (aCons (eUn opLen (eV 5)) aNil))))
    (sSeq (sSet 5 (eBin (g2 opAdd) (eSl (eV 5) (oSome (eV 9)) oNone) (eSl (eV 5) oNone (oSome (eV 9))))) (sFrz 5))) sNil) (sFrz 5))) (sFrz 5))
    (sRet (eTup (aCons (eV 3) (aCons (eUn opTuple (eV 5)) aNil)))))))))
noncomputable def m__law_plain : Fx := fnD 3 7 b__law_plain
noncomputable def b__law_sided : Sx :=
  (sSeq (sSet 3 (eBin (g2 opAdd) (eC (.int 1)) (eCall m__law_take (aCons (eV 0) (aCons (eV 1) aNil)))))
    (sSeq (sSet 4 (eBin (g2 opAdd) (eC (.int 1)) (eCall m__law_take (aCons (eV 0) (aCons (eV 1) aNil)))))
    (sSeq (sSet 5 (eLstO aNil))
    (sSeq (sSeq (sFor (iRange1 (eCall m__law_take (aCons (eV 0) (aCons (eBin (g2 opAdd) (eV 2) (eC (.int 1))) aNil)))) (tgName 6) (sExp (eApp (eV 5) (eTup (aCons (eCall m__law_take (aCons (eV 0) (aCons (eV 3) aNil))) (aCons (eBin (g2 opAdd) (eV 3) (eCall m__law_take (aCons (eV 0) (aCons (eV 4) aNil)))) aNil)))))) (sFrz 5))
    (sRet (eTup (aCons (eBin (g2 opAdd) (eV 3) (eV 4)) (aCons (eUn opTuple (eV 5)) aNil))))))))
noncomputable def m__law_sided : Fx := fnD 3 4 b__law_sided
noncomputable def b__law_any : Sx :=
  (sSeq (sSet 2 (eCall m__law_take (aCons (eV 0) (aCons (eC (.int 3)) aNil))))
    (sSeq (sIf (tOf (eBin (g2 opEqA) (eV 2) (eC (.int 0)))) (sRet (eCall m__law_plain (aCons (eV 0) (aCons (eC (.int 6)) (aCons (eV 1) aNil))))) sNil)
    (sSeq (sIf (tOf (eBin (g2 opEqA) (eV 2) (eC (.int 1)))) (sRet (eCall m__law_sided (aCons (eV 0) (aCons (eC (.int 4)) (aCons (eV 1) aNil))))) sNil)
    (sSeq (sSet 3 (eBin (g2 opAdd) (eC (.int 2)) (eCall m__law_take (aCons (eV 0) (aCons (eC (.int 4)) aNil)))))
    (sSeq (sSet 4 (eLstO aNil))
    (sSeq (sSeq (sFor (iRange1 (eCall m__law_take (aCons (eV 0) (aCons (eBin (g2 opAdd) (eV 1) (eC (.int 1))) aNil)))) (tgName 5) (sSeq (sSet 6 (eCall m__law_take (aCons (eV 0) (aCons (eBin (g2 opSub) (eV 3) (eC (.int 1))) aNil))))
    (sExp (eApp (eV 4) (eTup (aCons (eV 6) (aCons (eBin (g2 opAdd) (eBin (g2 opAdd) (eV 6) (eC (.int 1))) (eCall m__law_take (aCons (eV 0) (aCons (eBin (g2 opSub) (eBin (g2 opSub) (eV 3) (eC (.int 1))) (eV 6)) aNil)))) aNil))))))) (sFrz 4))
    (sRet (eTup (aCons (eV 3) (aCons (eUn opTuple (eV 4)) aNil))))))))))
noncomputable def m__law_any : Fx := fnD 2 5 b__law_any
noncomputable def b__law_few : Sx :=
  (sSeq (sSet 1 (eBin (g2 opSub) (eC (.int 4)) (eCall m__law_take (aCons (eV 0) (aCons (eC (.int 5)) aNil)))))
    (sSeq (sSet 2 (eLstO aNil))
    (sSeq (sSeq (sFor (iRange1 (eCall m__law_take (aCons (eV 0) (aCons (eC (.int 4)) aNil)))) (tgName 3) (sIf (tOf (eBin (g2 opGt) (eV 1) (eC (.int 1)))) (sSeq (sSet 4 (eCall m__law_take (aCons (eV 0) (aCons (eBin (g2 opSub) (eV 1) (eC (.int 1))) aNil))))
    (sExp (eApp (eV 2) (eTup (aCons (eV 4) (aCons (eBin (g2 opAdd) (eBin (g2 opAdd) (eV 4) (eC (.int 1))) (eCall m__law_take (aCons (eV 0) (aCons (eBin (g2 opSub) (eBin (g2 opSub) (eV 1) (eC (.int 1))) (eV 4)) aNil)))) aNil)))))) sNil)) (sFrz 2))
    (sRet (eTup (aCons (eV 1) (aCons (eUn opTuple (eV 2)) aNil)))))))
noncomputable def m__law_few : Fx := fnD 1 4 b__law_few
noncomputable def b__law_web : Sx :=
  (sRet (eIf (tOf (eBin (g2 opEqA) (eCall m__law_take (aCons (eV 0) (aCons (eC (.int 4)) aNil))) (eC (.int 0)))) (eCall m__law_few (aCons (eV 0) aNil)) (eCall m__law_any (aCons (eV 0) (aCons (eV 1) aNil)))))
noncomputable def m__law_web : Fx := fnD 2 0 b__law_web
noncomputable def b__law_clash : Sx :=
  (sRet (eOr (eBin (g2 opIn) (eBin gIx (eBin gIx (eBin gIx (eV 0) (eC (.int 1))) (eV 1)) (eC (.int 0))) (eBin gIx (eBin gIx (eV 0) (eC (.int 1))) (eV 2))) (eBin (g2 opIn) (eBin gIx (eBin gIx (eBin gIx (eV 0) (eC (.int 1))) (eV 1)) (eC (.int 1))) (eBin gIx (eBin gIx (eV 0) (eC (.int 1))) (eV 2)))))
noncomputable def m__law_clash : Fx := fnD 3 0 b__law_clash
noncomputable def b__law_lay : Sx :=
  (sSeq (sSet 2 (eLst (aCons (eTup aNil) aNil)))
    (sSeq (sFor (iRange1 (eUn opLen (eBin gIx (eV 0) (eC (.int 1))))) (tgName 3) (sSeq (sSet 4 (eLst aNil))
    (sSeq (sFor (iSeq (eV 2)) (tgName 5) (sSeq (sSet 6 (eLc (iRange1 (eV 3)) [7] (tgName 7) (tOf (eCall m__law_clash (aCons (eV 0) (aCons (eV 3) (aCons (eV 7) aNil))))) (eBin gIx (eV 5) (eV 7))))
    (sSet 4 (eBin (g2 opAdd) (eV 4) (eLc (iRange1 (eV 1)) [8] (tgName 8) (tOf (eBin (g2 opNotIn) (eV 8) (eV 6))) (eBin (g2 opAdd) (eV 5) (eTup (aCons (eV 8) aNil))))))))
    (sSet 2 (eV 4)))))
    (sRet (eV 2))))
noncomputable def m__law_lay : Fx := fnD 2 7 b__law_lay
noncomputable def b__law_falling : Sx :=
  (sSeq (sSet 2 (eC (.int 1)))
    (sSeq (sFor (iRange1 (eV 1)) (tgName 3) (sSet 2 (eBin (g2 opMulA) (eV 2) (eBin (g2 opSub) (eV 0) (eV 3)))))
    (sRet (eV 2))))
noncomputable def m__law_falling : Fx := fnD 2 2 b__law_falling
noncomputable def b__law_in_order : Sx :=
  (sSeq (sFor (iRange1 (eUn opLen (eV 0))) (tgName 1) (sIf (tAndM (tOf (eBin (g2 opGt) (eBin gIx (eV 0) (eV 1)) (eC (.int 0)))) (tOf (eBin (g2 opNotIn) (eBin (g2 opSub) (eBin gIx (eV 0) (eV 1)) (eC (.int 1))) (eSl (eV 0) oNone (oSome (eV 1)))))) (sRet (eC (.bl false))) sNil))
    (sRet (eC (.bl true))))
noncomputable def m__law_in_order : Fx := fnD 1 1 b__law_in_order
noncomputable def b__law_groups : Sx :=
  (sSeq (sSet 1 (eLc (iSeq (eCall m__law_lay (aCons (eV 0) (aCons (eUn opLen (eBin gIx (eV 0) (eC (.int 1)))) aNil)))) [3] (tgName 3) (tOf (eCall m__law_in_order (aCons (eV 3) aNil))) (eV 3)))
    (sSeq (sSet 2 (eLc (iSeq (eV 1)) [3] (tgName 3) tTrue (eIf (tOf (eBin (g2 opGt) (eUn opLen (eV 3)) (eC (.int 0)))) (eBin (g2 opAdd) (eUn (opBest PySem.W.maxD) (eV 3)) (eC (.int 1))) (eC (.int 0)))))
    (sRet (eLc (iRange1 (eBin (g2 opAdd) (eUn opLen (eBin gIx (eV 0) (eC (.int 1)))) (eC (.int 2)))) [4] (tgName 4) tTrue (eUn opLen (eLc (iSeq (eV 2)) [5] (tgName 5) (tOf (eBin (g2 opEqA) (eV 5) (eV 4))) (eC (.int 1))))))))
noncomputable def m__law_groups : Fx := fnD 1 5 b__law_groups
noncomputable def b__law_one_more : Sx :=
  (sSeq (sIf (tOf (eBin (g2 opLt) (eBin gIx (eV 1) (eC (.int 0))) (eC (.int 2)))) (sRet (eC (.bl true))) sNil)
    (sSeq (sSet 4 (eCall m__law_take (aCons (eV 0) (aCons (eBin (g2 opSub) (eBin gIx (eV 1) (eC (.int 0))) (eC (.int 1))) aNil))))
    (sSeq (sSet 5 (eBin (g2 opAdd) (eBin (g2 opAdd) (eV 4) (eC (.int 1))) (eCall m__law_take (aCons (eV 0) (aCons (eBin (g2 opSub) (eBin (g2 opSub) (eBin gIx (eV 1) (eC (.int 0))) (eC (.int 1))) (eV 4)) aNil)))))
    (sSeq (sSet 6 (eC (.int 0)))
    (sSeq (sFor (iSeq (eV 2)) (tgName 7) (sSeq (sSet 8 (eCall m_free_days (aCons (eV 1) (aCons (eV 7) (aCons (eV 5) (aCons (eV 3) aNil))))))
    (sSet 6 (eBin (g2 opAdd) (eV 6) (eUn opLen (eLc (iSeq (eCall m_free_days (aCons (eV 1) (aCons (eV 7) (aCons (eV 4) (aCons (eV 3) aNil)))))) [9] (tgName 9) (tOf (eBin (g2 opIn) (eV 9) (eV 8))) (eV 9)))))))
    (sRet (eCall (m__law_same 20) (aCons (eCall m_plan_count (aCons (eCall m_with_meeting (aCons (eV 1) (aCons (eV 4) (aCons (eV 5) aNil)))) (aCons (eV 3) aNil))) (aCons (eV 6) aNil)))))))))
noncomputable def m__law_one_more : Fx := fnD 4 6 b__law_one_more
noncomputable def b__law_new_person : Sx :=
  (sSeq (sIf (tOf (eBin (g2 opEqA) (eBin gIx (eV 1) (eC (.int 0))) (eC (.int 0)))) (sRet (eC (.bl true))) sNil)
    (sSeq (sSet 4 (eCall m__law_take (aCons (eV 0) (aCons (eBin gIx (eV 1) (eC (.int 0))) aNil))))
    (sSeq (sSet 5 (eUn opLen (eLc (iSeq (eBin gIx (eV 1) (eC (.int 1)))) [7] (tgName 7) (tOf (eBin (g2 opIn) (eV 4) (eV 7))) (eC (.int 1)))))
    (sSeq (sSet 6 (eTup (aCons (eBin (g2 opAdd) (eBin gIx (eV 1) (eC (.int 0))) (eC (.int 1))) (aCons (eBin (g2 opAdd) (eBin gIx (eV 1) (eC (.int 1))) (eTup (aCons (eTup (aCons (eV 4) (aCons (eBin gIx (eV 1) (eC (.int 0))) aNil))) aNil))) aNil))))
    (sRet (eCall (m__law_same 20) (aCons (eCall m_plan_count (aCons (eV 6) (aCons (eV 3) aNil))) (aCons (eBin (g2 opMulA) (eUn opLen (eV 2)) (eBi opMax2 (eC (.int 0)) (eBin (g2 opSub) (eV 3) (eV 5)))) aNil))))))))
noncomputable def m__law_new_person : Fx := fnD 4 4 b__law_new_person
noncomputable def b__law_beside : Sx :=
  (sSeq (sSet 3 (eUn opTuple (eLc (iSeq (eBin gIx (eV 1) (eC (.int 1)))) [5, 6] (tgTup [5, 6]) tTrue (eTup (aCons (eBin (g2 opAdd) (eV 5) (eBin gIx (eV 0) (eC (.int 0)))) (aCons (eBin (g2 opAdd) (eV 6) (eBin gIx (eV 0) (eC (.int 0)))) aNil))))))
    (sSeq (sSet 4 (eTup (aCons (eBin (g2 opAdd) (eBin gIx (eV 0) (eC (.int 0))) (eBin gIx (eV 1) (eC (.int 0)))) (aCons (eBin (g2 opAdd) (eBin gIx (eV 0) (eC (.int 1))) (eV 3)) aNil))))
    (sRet (eCall (m__law_same 20) (aCons (eCall m_plan_count (aCons (eV 4) (aCons (eV 2) aNil))) (aCons (eBin (g2 opMulA) (eUn opLen (eCall m__law_lay (aCons (eV 0) (aCons (eV 2) aNil)))) (eUn opLen (eCall m__law_lay (aCons (eV 1) (aCons (eV 2) aNil))))) aNil))))))
noncomputable def m__law_beside : Fx := fnD 3 4 b__law_beside
noncomputable def b__law_counted : Sx :=
  (sSeq (sSet 2 (eCall m__law_groups (aCons (eV 1) aNil)))
    (sSeq (sFor (iRange1 (eUn opLen (eV 2))) (tgName 3) (sIf (tNotM (tOf (eCall (m__law_same 20) (aCons (eCall m_group_count (aCons (eV 1) (aCons (eV 3) aNil))) (aCons (eBin gIx (eV 2) (eV 3)) aNil))))) (sRet (eC (.bl false))) sNil))
    (sSeq (sSet 4 (eBin (g2 opAdd) (eC (.int 5)) (eCall m__law_take (aCons (eV 0) (aCons (eC (.int 95)) aNil)))))
    (sRet (eCall (m__law_same 20) (aCons (eCall m_plan_count (aCons (eV 1) (aCons (eV 4) aNil))) (aCons (eUn opSum (eLc (iRange1 (eUn opLen (eV 2))) [3] (tgName 3) tTrue (eBin (g2 opMulA) (eBin gIx (eV 2) (eV 3)) (eCall m__law_falling (aCons (eV 4) (aCons (eV 3) aNil)))))) aNil)))))))
noncomputable def m__law_counted : Fx := fnD 2 3 b__law_counted
noncomputable def b_law : Sx :=
  (sSeq (sSet 1 (eCall m__law_deal (aCons (eV 0) aNil)))
    (sSeq (sSet 2 (eCall m__law_web (aCons (eV 1) (aCons (eC (.int 4)) aNil))))
    (sSeq (sIf (tNotM (tOf (eCall m__law_counted (aCons (eV 1) (aCons (eV 2) aNil))))) (sRet (eC (.bl false))) sNil)
    (sSeq (sFor (iRange1 (eC (.int 5))) (tgName 3) (sSeq (sSet 4 (eCall m__law_lay (aCons (eV 2) (aCons (eV 3) aNil))))
    (sSeq (sIf (tNotM (tOf (eCall (m__law_same 20) (aCons (eCall m_plan_count (aCons (eV 2) (aCons (eV 3) aNil))) (aCons (eUn opLen (eV 4)) aNil))))) (sRet (eC (.bl false))) sNil)
    (sSeq (sSet 5 (eCall m_plan_within (aCons (eV 2) (aCons (eV 3) aNil))))
    (sSeq (sIf (tOrM (tOf (eBin (g2 opNeA) (eBin (g2 opIsN) (eV 5) (eC .non)) (eBin (g2 opEqA) (eUn opLen (eV 4)) (eC (.int 0))))) (tAndM (tOf (eBin (g2 opNotN) (eV 5) (eC .non))) (tOrM (tNotM (tOf (eIsi "tuple" (eV 5)))) (tOf (eBin (g2 opNotIn) (eV 5) (eV 4)))))) (sRet (eC (.bl false))) sNil)
    (sIf (tOrM (tNotM (tOf (eCall m__law_one_more (aCons (eV 1) (aCons (eV 2) (aCons (eV 4) (aCons (eV 3) aNil))))))) (tNotM (tOf (eCall m__law_new_person (aCons (eV 1) (aCons (eV 2) (aCons (eV 4) (aCons (eV 3) aNil)))))))) (sRet (eC (.bl false))) sNil))))))
    (sRet (eCall m__law_beside (aCons (eV 2) (aCons (eCall m__law_few (aCons (eV 1) aNil)) (aCons (eCall m__law_take (aCons (eV 1) (aCons (eC (.int 5)) aNil))) aNil)))))))))
noncomputable def m_law : Fx := fnD 1 5 b_law
end Lw
namespace Lw
open PySem PySem.Spec L2 PL TL
set_option autoImplicit false
noncomputable section
def t_meetings_of (web : (Int × (List (Int × Int)))) (person : Int) : Option (List Int) :=
  (rg (len web.2)).bind fun x8 => lcM (fun y2 => (atI web.2 y2).bind fun x7 => some (inP person x7)) (fun y2 => some y2) x8
def t_clash (web : (Int × (List (Int × Int)))) (i : Int) (j : Int) : Option Bool :=
  (atI web.2 i).bind fun v3 => ((atI web.2 j).bind fun x8 => some (inP v3.1 x8)).bind fun x14 => if x14 = true then some true else (atI web.2 j).bind fun x13 => some (inP v3.2 x13)
def t_clashing (web : (Int × (List (Int × Int)))) (i : Int) : Option (List Int) :=
  (rg (len web.2)).bind fun x5 => lcM (fun y2 => if (!decide (y2 = i)) = true then t_clash web i y2 else some false) (fun y2 => some y2) x5
def t_with_meeting (web : (Int × (List (Int × Int)))) (a : Int) (b : Int) : Option (Int × (List (Int × Int))) :=
  (((catG web.2 [(a, b)]).bind fun x3 => some (x3, ())).bind fun q4 => some (web.1, q4)).bind fun q5 => some (q5.1, q5.2.1)
def t_groupings (web : (Int × (List (Int × Int)))) : Option (List (Int × Int)) :=
  (rg (len web.2)).bind fun l54 => (lpM (fun (s2 : (List (List (List Int)))) y3 => ((lpM (fun (s5 : (List (List (List Int)))) y6 => ((rg (len y6)).bind fun l42 => (lpM (fun (s8 : (List (List (List Int)))) y9 => (((((atI y6 y9).bind fun x13 => lcM (fun y12 => t_clash web y3 y12) (fun y12 => some (1 : Int)) x13).bind fun x15 => some (len x15)).bind fun x18 => some (decide (x18 = (0 : Int)))).bind fun b36 => if b36 = true then ((((((atI y6 y9).bind fun x24 => catG x24 [y3]).bind fun x25 => some (x25, ())).bind fun q26 => some [q26.1]).bind fun x29 => catG (cutD y6 none (some y9)) x29).bind fun x34 => catG x34 (cutD y6 (some (y9 + (1 : Int))) none)).bind fun v35 => (snoc s8 v35).bind fun later19 => some later19 else some s8 : Option ((List (List (List Int)))))) l42 s5).bind fun s37 => (catG y6 [[y3]]).bind fun v41 => (snoc s37 v41).bind fun later38 => some later38 : Option ((List (List (List Int)))))) s2 []).bind fun s43 => some s43 : Option ((List (List (List Int)))))) l54 [[]]).bind fun s44 => (lpM (fun (s46 : (List (Int × Int))) y47 => ((dputG s46 (len y47) (((dgetL s46 (len y47)).getD (0 : Int)) + (1 : Int))).bind fun d48 => some d48 : Option ((List (Int × Int))))) s44 []).bind fun s53 => some s53
def t_group_count (web : (Int × (List (Int × Int)))) (g : Int) : Option Int :=
  (t_groupings web).bind fun x1 => some ((dgetL x1 g).getD (0 : Int))
def t_plan_count (web : (Int × (List (Int × Int)))) (k : Int) : Option Int :=
  ((t_groupings web).bind fun x1 => some x1).bind fun l16 => (lpM (fun (s2 : Int) y3 => ((rg y3.1).bind fun l14 => (lpM (fun (s4 : Int) y5 => ((mulG s4 (k - y5)).bind fun v10 => some v10 : Option (Int))) l14 y3.2).bind fun s11 => some (s2 + s11) : Option (Int))) l16 (0 : Int)).bind fun s15 => some s15
def t_free_days (web : (Int × (List (Int × Int)))) (plan : (List Int)) (person : Int) (k : Int) : Option (List Int) :=
  ((t_meetings_of web person).bind fun x4 => mpM (fun y1 => atI plan y1) x4).bind fun v5 => (rg k).bind fun x9 => some ((x9.filter fun y6 => !memB y6 v5).map fun y6 => y6)
def t_days_left (web : (Int × (List (Int × Int)))) (days : (List (Int × Int))) (i : Int) (k : Int) : Option (List Int) :=
  ((t_clashing web i).bind fun x2 => lcM (fun y1 => some (dhas days y1)) (fun y1 => dgetL days y1) x2).bind fun v3 => (rg k).bind fun x7 => some ((x7.filter fun y4 => !memB y4 v3).map fun y4 => y4)
def t_days_to_try (web : (Int × (List (Int × Int)))) (days : (List (Int × Int))) (i : Int) (k : Int) : Option (List Int) :=
  (mpM (fun y1 => dgetL days y1) (days.map (·.1))).bind fun v2 => (((rg k).bind fun x6 => some ((x6.filter fun y3 => !memB y3 v2).map fun y3 => y3)).bind fun x7 => some (cutD x7 none (some (1 : Int)))).bind fun v8 => (t_days_left web days i k).bind fun x14 => some ((x14.filter fun y9 => (memB y9 v2) || (memB y9 v8)).map fun y9 => y9)
def t_with_day (days : (List (Int × Int))) (i : Int) (day : Int) : Option (List (Int × Int)) :=
  (dputG days i day).bind fun d2 => some d2
def t_hardest (web : (Int × (List (Int × Int)))) (days : (List (Int × Int))) (k : Int) : Option (Option Int) :=
  ((rg (len web.2)).bind fun x3 => some ((x3.filter fun y2 => !dhas days y2).map fun y2 => y2)).bind fun v4 => if (decide ((len v4) = (0 : Int))) = true then some none else (((mpM (fun y8 => (((t_days_to_try web days y8 k).bind fun x10 => some (len x10)).bind fun x11 => some (x11, y8, ())).bind fun q12 => some (q12.1, q12.2.1)) v4).bind fun x14 => minG ltP x14).bind fun x15 => some x15.2).bind fun x16 => some (some x16)
def t_searched : Nat → (Int × (List (Int × Int))) → Int → (List (Int × Int)) → Option ((Option (List (Int × Int))) × D)
  | 0, _, _, _ => none
  | n + 1, web, k, days => (t_hardest web days k).bind fun v1 => if v1.isNone = true then some (some days, eU ()) else (((((v1).bind fun x4 => some (x4, k, ())).bind fun q5 => some (days, q5)).bind fun q6 => some (web, q6)).bind fun q7 => t_days_to_try q7.1 q7.2.1 q7.2.2.1 q7.2.2.2.1).bind fun v8 => if (decide ((len v8) = (0 : Int))) = true then some (none, (e2 D.str (eO D.int)) (("stuck" : Str), v1)) else (lpX (fun (s13 : (List D)) y14 => (((((((((v1).bind fun x15 => some (x15, y14, ())).bind fun q16 => some (days, q16)).bind fun q17 => t_with_day q17.1 q17.2.1 q17.2.2.1).bind fun x18 => some (x18, ())).bind fun q19 => some (k, q19)).bind fun q20 => some (web, q20)).bind fun q21 => t_searched n q21.1 q21.2.1 q21.2.2.1).bind fun v22 => (isNoneD v22.2).bind fun b26 => if b26 = true then some (Fx'.rt (v22.1, eU ())) else (snoc s13 v22.2).bind fun papers25 => some (Fx'.nx papers25) : Option (Fx' ((List D)) ((Option (List (Int × Int))) × D)))) v8 []).bind (TL.behind (fun s27 => some (none, (e3 D.str (eO D.int) (eT id)) (("try" : Str), v1, s27))) (fun r => r))
def t_plan_within (web : (Int × (List (Int × Int)))) (k : Int) : Option (Option (List Int)) :=
  (t_searched 20 web k []).bind fun v1 => (notNoneD v1.2).bind fun b11 => if b11 = true then some none else (((rg (len web.2)).bind fun x7 => mpM (fun y5 => (v1.1).bind fun x6 => dgetL x6 y5) x7).bind fun x9 => some x9).bind fun x10 => some (some x10)
def t__law_plain (row : List Int) (tot : Int) (most : Int) (limit : Int) (c : Int) : Option ((Int × (List (Int × Int))) × Int) :=
  (t__law_take row tot (most + (1 : Int)) c).bind fun p5 => ((t__law_take row tot (4 : Int) p5.2).bind fun p9 => some ((1 : Int) + p9.1, p9.2)).bind fun p12 => (rg p5.1).bind fun l50 => (lpM (fun (s14 : (List (Int × Int)) × Int) y15 => ((rg2 (y15 + (1 : Int)) p5.1).bind fun l31 => (lpM (fun (s18 : (List (Int × Int)) × Int) y19 => ((((t__law_take row tot (5 : Int) s18.2).bind fun p25 => some (decide (p25.1 < p12.1), p25.2)).bind fun p27 => if p27.1 = true then some (decide ((len s18.1) < limit), p27.2) else some (false, p27.2)).bind fun p28 => if p28.1 = true then (snoc s18.1 (y15, y19)).bind fun meetings29 => some (meetings29, p28.2) else some (s18.1, p28.2) : Option ((List (Int × Int)) × Int))) l31 (s14.1, s14.2)).bind fun s30 => some (s30.1, s30.2) : Option ((List (Int × Int)) × Int))) l50 ([], p12.2)).bind fun s32 => ((t__law_take row tot (4 : Int) s32.2).bind fun p47 => (rg p47.1).bind fun z48 => some (z48, p47.2)).bind fun l49 => (lpM (fun (s33 : (List (Int × Int)) × Int) y34 => (if (decide ((1 : Int) < (len s33.1))) = true then (t__law_take row tot (len s33.1) s33.2).bind fun p41 => (catG (cutD s33.1 (some p41.1) none) (cutD s33.1 none (some p41.1))).bind fun v44 => some (v44, p41.2) else some (s33.1, s33.2) : Option ((List (Int × Int)) × Int))) l49.1 (s32.1, l49.2)).bind fun s45 => some ((p5.1, s45.1), s45.2)
def t__law_sided (row : List Int) (tot : Int) (most : Int) (limit : Int) (c : Int) : Option ((Int × (List (Int × Int))) × Int) :=
  ((t__law_take row tot most c).bind fun p4 => some ((1 : Int) + p4.1, p4.2)).bind fun p7 => ((t__law_take row tot most p7.2).bind fun p11 => some ((1 : Int) + p11.1, p11.2)).bind fun p14 => ((t__law_take row tot (limit + (1 : Int)) p14.2).bind fun p41 => (rg p41.1).bind fun z42 => some (z42, p41.2)).bind fun l43 => (lpM (fun (s18 : (List (Int × Int)) × Int) y19 => ((((t__law_take row tot p7.1 s18.2).bind fun p28 => (((t__law_take row tot p14.1 p28.2).bind fun p30 => some (p7.1 + p30.1, p30.2)).bind fun p32 => some ((p32.1, ()), p32.2)).bind fun q33 => some ((p28.1, q33.1), q33.2)).bind fun q34 => some ((q34.1.1, q34.1.2.1), q34.2)).bind fun p36 => (snoc s18.1 p36.1).bind fun meetings20 => some (meetings20, p36.2) : Option ((List (Int × Int)) × Int))) l43.1 ([], l43.2)).bind fun s37 => some ((p7.1 + p14.1, s37.1), s37.2)
def t__law_any (row : List Int) (tot : Int) (limit : Int) (c : Int) : Option ((Int × (List (Int × Int))) × Int) :=
  (t__law_take row tot (3 : Int) c).bind fun p3 => if (decide (p3.1 = (0 : Int))) = true then t__law_plain row tot (6 : Int) limit p3.2 else if (decide (p3.1 = (1 : Int))) = true then t__law_sided row tot (4 : Int) limit p3.2 else ((t__law_take row tot (4 : Int) p3.2).bind fun p11 => some ((2 : Int) + p11.1, p11.2)).bind fun p14 => ((t__law_take row tot (limit + (1 : Int)) p14.2).bind fun p49 => (rg p49.1).bind fun z50 => some (z50, p49.2)).bind fun l51 => (lpM (fun (s18 : (List (Int × Int)) × Int) y19 => ((t__law_take row tot (p14.1 - (1 : Int)) s18.2).bind fun p24 => (((((t__law_take row tot ((p14.1 - (1 : Int)) - p24.1) p24.2).bind fun p40 => some ((p24.1 + (1 : Int)) + p40.1, p40.2)).bind fun p42 => some ((p42.1, ()), p42.2)).bind fun q43 => some ((p24.1, q43.1), q43.2)).bind fun q44 => some ((q44.1.1, q44.1.2.1), q44.2)).bind fun p46 => (snoc s18.1 p46.1).bind fun meetings25 => some (meetings25, p46.2) : Option ((List (Int × Int)) × Int))) l51.1 ([], l51.2)).bind fun s47 => some ((p14.1, s47.1), s47.2)
def t__law_few (row : List Int) (tot : Int)  (c : Int) : Option ((Int × (List (Int × Int))) × Int) :=
  ((t__law_take row tot (5 : Int) c).bind fun p4 => some ((4 : Int) - p4.1, p4.2)).bind fun p7 => ((t__law_take row tot (4 : Int) p7.2).bind fun p42 => (rg p42.1).bind fun z43 => some (z43, p42.2)).bind fun l44 => (lpM (fun (s9 : (List (Int × Int)) × Int) y10 => (if (decide ((1 : Int) < p7.1)) = true then (t__law_take row tot (p7.1 - (1 : Int)) s9.2).bind fun p17 => (((((t__law_take row tot ((p7.1 - (1 : Int)) - p17.1) p17.2).bind fun p33 => some ((p17.1 + (1 : Int)) + p33.1, p33.2)).bind fun p35 => some ((p35.1, ()), p35.2)).bind fun q36 => some ((p17.1, q36.1), q36.2)).bind fun q37 => some ((q37.1.1, q37.1.2.1), q37.2)).bind fun p39 => (snoc s9.1 p39.1).bind fun meetings18 => some (meetings18, p39.2) else some (s9.1, s9.2) : Option ((List (Int × Int)) × Int))) l44.1 ([], l44.2)).bind fun s40 => some ((p7.1, s40.1), s40.2)
def t__law_web (row : List Int) (tot : Int) (limit : Int) (c : Int) : Option ((Int × (List (Int × Int))) × Int) :=
  ((t__law_take row tot (4 : Int) c).bind fun p3 => some (decide (p3.1 = (0 : Int)), p3.2)).bind fun p5 => if p5.1 = true then t__law_few row tot  p5.2 else t__law_any row tot limit p5.2
def t__law_clash (web : (Int × (List (Int × Int)))) (i : Int) (j : Int) : Option Bool :=
  (((atI web.2 i).bind fun x3 => some x3.1).bind fun x8 => (atI web.2 j).bind fun x9 => some (inP x8 x9)).bind fun x19 => if x19 = true then some true else ((atI web.2 i).bind fun x12 => some x12.2).bind fun x17 => (atI web.2 j).bind fun x18 => some (inP x17 x18)
def t__law_lay (web : (Int × (List (Int × Int)))) (k : Int) : Option (List (List Int)) :=
  (rg (len web.2)).bind fun l23 => (lpM (fun (s2 : (List (List Int))) y3 => ((lpM (fun (s4 : (List (List Int))) y5 => (((rg y3).bind fun x9 => lcM (fun y6 => t__law_clash web y3 y6) (fun y6 => atI y5 y6) x9).bind fun v10 => (((rg k).bind fun x16 => lcM (fun y11 => some (!memB y11 v10)) (fun y11 => catG y5 [y11]) x16).bind fun x19 => catG s4 x19).bind fun v20 => some v20 : Option ((List (List Int))))) s2 []).bind fun s21 => some s21 : Option ((List (List Int))))) l23 [[]]).bind fun s22 => some s22
def t__law_falling (k : Int) (g : Int) : Option Int :=
  (rg g).bind fun l9 => (lpM (fun (s1 : Int) y2 => ((mulG s1 (k - y2)).bind fun v7 => some v7 : Option (Int))) l9 (1 : Int)).bind fun s8 => some s8
def t__law_in_order (plan : (List Int)) : Option Bool :=
  (rg (len plan)).bind fun l20 => (lpX (fun (s2 : Unit) y3 => ((((atI plan y3).bind fun x8 => some (decide ((0 : Int) < x8))).bind fun x17 => if x17 = true then ((atI plan y3).bind fun x13 => some (x13 - (1 : Int))).bind fun x16 => some (!memB x16 (cutD plan none (some y3))) else some false).bind fun b18 => if b18 = true then some (Fx'.rt false) else some (Fx'.nx ()) : Option (Fx' (Unit) Bool))) l20 ()).bind (TL.behind (fun s19 => some true) (fun r => r))
def t__law_groups (web : (Int × (List (Int × Int)))) : Option (List Int) :=
  ((t__law_lay web (len web.2)).bind fun x3 => lcM (fun y2 => t__law_in_order y2) (fun y2 => some y2) x3).bind fun v4 => (mpM (fun y5 => if (decide ((0 : Int) < (len y5))) = true then (maxG ltI y5).bind fun x12 => some (x12 + (1 : Int)) else some (0 : Int)) v4).bind fun v13 => (rg ((len web.2) + (2 : Int))).bind fun x22 => some (x22.map fun y17 => len ((v13.filter fun y18 => decide (y18 = y17)).map fun y18 => (1 : Int)))
def t__law_one_more (row : List Int) (tot : Int) (web : (Int × (List (Int × Int)))) (plans : (List (List Int))) (k : Int) (c : Int) : Option (Bool × Int) :=
  if (decide (web.1 < (2 : Int))) = true then some (true, c) else (t__law_take row tot (web.1 - (1 : Int)) c).bind fun p7 => ((t__law_take row tot ((web.1 - (1 : Int)) - p7.1) p7.2).bind fun p17 => some ((p7.1 + (1 : Int)) + p17.1, p17.2)).bind fun p20 => (lpM (fun (s21 : Int) y22 => ((t_free_days web y22 p20.1 k).bind fun v23 => ((((t_free_days web y22 p7.1 k).bind fun x27 => some ((x27.filter fun y24 => memB y24 v23).map fun y24 => y24)).bind fun x29 => some (len x29)).bind fun x32 => some (s21 + x32)).bind fun v33 => some v33 : Option (Int))) plans (0 : Int)).bind fun s34 => ((((((t_with_meeting web p7.1 p20.1).bind fun x35 => some (x35, k, ())).bind fun q36 => t_plan_count q36.1 q36.2.1).bind fun x37 => some (D.int x37)).bind fun x38 => some (x38, D.int s34, ())).bind fun q39 => t__law_same 20 q39.1 q39.2.1).bind fun r40 => some (r40, p20.2)
def t__law_new_person (row : List Int) (tot : Int) (web : (Int × (List (Int × Int)))) (plans : (List (List Int))) (k : Int) (c : Int) : Option (Bool × Int) :=
  if (decide (web.1 = (0 : Int))) = true then some (true, c) else (t__law_take row tot web.1 c).bind fun p5 => ((((catG web.2 [(p5.1, web.1)]).bind fun x14 => some (x14, ())).bind fun q15 => some (web.1 + (1 : Int), q15)).bind fun q16 => some (q16.1, q16.2.1)).bind fun v17 => ((((t_plan_count v17 k).bind fun x18 => some (D.int x18)).bind fun x28 => (((mulG (len plans) (max (0 : Int) (k - (len ((web.2.filter fun y6 => inP p5.1 y6).map fun y6 => (1 : Int)))))).bind fun x26 => some (D.int x26)).bind fun x27 => some (x27, ())).bind fun q29 => some (x28, q29)).bind fun q30 => t__law_same 20 q30.1 q30.2.1).bind fun r31 => some (r31, p5.2)
def t__law_beside (web : (Int × (List (Int × Int)))) (other : (Int × (List (Int × Int)))) (k : Int) : Option Bool :=
  ((((catG web.2 (other.2.map fun y1 => (y1.1 + web.1, y1.2 + web.1))).bind fun x11 => some (x11, ())).bind fun q12 => some (web.1 + other.1, q12)).bind fun q13 => some (q13.1, q13.2.1)).bind fun v14 => (((t_plan_count v14 k).bind fun x15 => some (D.int x15)).bind fun x26 => (((((t__law_lay web k).bind fun x17 => some (len x17)).bind fun x22 => ((t__law_lay other k).bind fun x19 => some (len x19)).bind fun x23 => mulG x22 x23).bind fun x24 => some (D.int x24)).bind fun x25 => some (x25, ())).bind fun q27 => some (x26, q27)).bind fun q28 => t__law_same 20 q28.1 q28.2.1
def t__law_counted (row : List Int) (tot : Int) (web : (Int × (List (Int × Int)))) (c : Int) : Option (Bool × Int) :=
  (t__law_groups web).bind fun v1 => (rg (len v1)).bind fun l41 => (lpX (fun (s3 : Unit) y4 => ((((((t_group_count web y4).bind fun x5 => some (D.int x5)).bind fun x10 => (((atI v1 y4).bind fun x8 => some (D.int x8)).bind fun x9 => some (x9, ())).bind fun q11 => some (x10, q11)).bind fun q12 => t__law_same 20 q12.1 q12.2.1).bind fun x13 => some (!x13)).bind fun b14 => if b14 = true then some (Fx'.rt (false, c)) else some (Fx'.nx ()) : Option (Fx' (Unit) (Bool × Int)))) l41 ()).bind (TL.behind (fun s15 => ((t__law_take row tot (95 : Int) c).bind fun p19 => some ((5 : Int) + p19.1, p19.2)).bind fun p22 => ((((t_plan_count web p22.1).bind fun x23 => some (D.int x23)).bind fun x37 => (((((rg (len v1)).bind fun x32 => mpM (fun y25 => (atI v1 y25).bind fun x30 => (t__law_falling p22.1 y25).bind fun x31 => mulG x30 x31) x32).bind fun x34 => some x34.sum).bind fun x35 => some (D.int x35)).bind fun x36 => some (x36, ())).bind fun q38 => some (x37, q38)).bind fun q39 => t__law_same 20 q39.1 q39.2.1).bind fun r40 => some (r40, p22.2)) (fun r => r))
def t_law (ns : List Int) (row : List Int) (tot : Int) (c : Int) : Option (Bool × Int) :=
  (t__law_web row tot (4 : Int) c).bind fun p3 => ((t__law_counted row tot p3.1 p3.2).bind fun p4 => some (!p4.1, p4.2)).bind fun p5 => if p5.1 = true then some (false, p5.2) else (rg (5 : Int)).bind fun l54 => (lpX (fun (s6 : Int) y7 => ((t__law_lay p3.1 y7).bind fun v8 => (((((t_plan_count p3.1 y7).bind fun x9 => some (D.int x9)).bind fun x11 => some (x11, D.int (len v8), ())).bind fun q12 => t__law_same 20 q12.1 q12.2.1).bind fun x13 => some (!x13)).bind fun b34 => if b34 = true then some (Fx'.rt (false, s6)) else (t_plan_within p3.1 y7).bind fun v14 => (if (!decide (v14.isNone = (decide ((len v8) = (0 : Int))))) = true then some true else if v14.isSome = true then if (!(if v14.isSome = true then true else false)) = true then some true else (v14).bind fun x26 => some (!memB x26 v8) else some false).bind fun b33 => if b33 = true then some (Fx'.rt (false, s6)) else (((t__law_one_more row tot p3.1 v8 y7 s6).bind fun p27 => some (!p27.1, p27.2)).bind fun p30 => if p30.1 = true then some (true, p30.2) else (t__law_new_person row tot p3.1 v8 y7 p30.2).bind fun p31 => some (!p31.1, p31.2)).bind fun p32 => if p32.1 = true then some (Fx'.rt (false, p32.2)) else some (Fx'.nx p32.2) : Option (Fx' (Int) (Bool × Int)))) l54 p5.2).bind (TL.behind (fun s35 => (((t__law_few row tot  s35).bind fun p47 => ((t__law_take row tot (5 : Int) p47.2).bind fun p49 => some ((p49.1, ()), p49.2)).bind fun q50 => some ((p47.1, q50.1), q50.2)).bind fun q51 => some ((p3.1, q51.1), q51.2)).bind fun q53 => (t__law_beside q53.1.1 q53.1.2.1 q53.1.2.2.1).bind fun z52 => some (z52, q53.2)) (fun r => r))
end
end Lw
namespace Lw
open PySem PySem.Spec L2 PL TL
set_option autoImplicit false
theorem l_meetings_of (web : (Int × (List (Int × Int)))) (person : Int) : Fp (m_meetings_of) [.x ((e2 D.int (eT (e2 D.int D.int))) web), .x (D.int person)] (eL D.int) (t_meetings_of web person) := by
  unfold m_meetings_of t_meetings_of b_meetings_of
  exact fp_body (s := [.val ((e2 D.int (eT (e2 D.int D.int))) web), .val (D.int person), .any]) rfl rfl (sk_last (sk_ret0 (evE (ev_lcM (ei := D.int) (ef := D.int) (S1 := fun y2 => [.val ((e2 D.int (eT (e2 D.int D.int))) web), .val (D.int person), .val (D.int y2)]) (iv_rg (Ev.rv (ev_un (ea := (eT (e2 D.int D.int))) (eb := D.int) (fun a1 => some (len a1)) op_lenT (Ev.rv (ev_ixF (ea := (e2 D.int (eT (e2 D.int D.int)))) (eb := (eT (e2 D.int D.int))) (1 : Int) (fun x => x.2) (fun _ => rfl) (Ev.rv (ev_var (ea := (e2 D.int (eT (e2 D.int D.int)))) 0 web rfl)) (Ev.rv (ev_c (ea := D.int) (1 : Int) rfl))))))) (fun y2 => (tg_name rfl)) (fun y2 => (tvE (tv_of (ev_bin (ea := D.int) (eb := (e2 D.int D.int)) (ec := D.bl) (fun a5 b6 => some (inP a5 b6)) (op_inP pyE_int) (Ev.rv (ev_var (ea := D.int) 1 person rfl)) (Ev.rv (ev_ix (ea := (eT (e2 D.int D.int))) (eb := D.int) (ec := (e2 D.int D.int)) (fun a3 b4 => atI a3 b4) op_ixT (Ev.rv (ev_ixF (ea := (e2 D.int (eT (e2 D.int D.int)))) (eb := (eT (e2 D.int D.int))) (1 : Int) (fun x => x.2) (fun _ => rfl) (Ev.rv (ev_var (ea := (e2 D.int (eT (e2 D.int D.int)))) 0 web rfl)) (Ev.rv (ev_c (ea := D.int) (1 : Int) rfl)))) (Ev.rv (ev_var (ea := D.int) 2 y2 rfl)))))) (by simp -implicitDefEqProofs only [Option.bind_some, Option.bind_fun_some]) : Tv _ _ ((atI web.2 y2).bind fun x7 => some (inP person x7)))) (fun y2 => (evE (ev_var (ea := D.int) 2 y2 rfl) (by simp -implicitDefEqProofs only [Option.bind_some, Option.bind_fun_some]) : Ev _ _ _ (some y2)))) (by simp -implicitDefEqProofs only [Option.bind_some, Option.bind_fun_some]) : Ev _ _ _ ((rg (len web.2)).bind fun x8 => lcM (fun y2 => (atI web.2 y2).bind fun x7 => some (inP person x7)) (fun y2 => some y2) x8)) (fun _ => rfl)))
theorem l_clash (web : (Int × (List (Int × Int)))) (i : Int) (j : Int) : Fp (m_clash) [.x ((e2 D.int (eT (e2 D.int D.int))) web), .x (D.int i), .x (D.int j)] D.bl (t_clash web i j) := by
  unfold m_clash t_clash b_clash
  exact fp_body (s := [.val ((e2 D.int (eT (e2 D.int D.int))) web), .val (D.int i), .val (D.int j), .any, .any]) rfl rfl (sk_asg (S1 := fun v3 => [.val ((e2 D.int (eT (e2 D.int D.int))) web), .val (D.int i), .val (D.int j), .val (D.int v3.1), .val (D.int v3.2)]) (evE (ev_ix (ea := (eT (e2 D.int D.int))) (eb := D.int) (ec := (e2 D.int D.int)) (fun a1 b2 => atI a1 b2) op_ixT (Ev.rv (ev_ixF (ea := (e2 D.int (eT (e2 D.int D.int)))) (eb := (eT (e2 D.int D.int))) (1 : Int) (fun x => x.2) (fun _ => rfl) (Ev.rv (ev_var (ea := (e2 D.int (eT (e2 D.int D.int)))) 0 web rfl)) (Ev.rv (ev_c (ea := D.int) (1 : Int) rfl)))) (Ev.rv (ev_var (ea := D.int) 1 i rfl))) (by simp -implicitDefEqProofs only [Option.bind_some, Option.bind_fun_some]) : Ev _ _ (e2 D.int D.int) (atI web.2 i)) (fun _ => tg_tup rfl rfl rfl) (fun v3 => (sk_last (sk_ret0 (evE (ev_or (ev_bin (ea := D.int) (eb := (e2 D.int D.int)) (ec := D.bl) (fun a6 b7 => some (inP a6 b7)) (op_inP pyE_int) (Ev.rv (ev_var (ea := D.int) 3 v3.1 rfl)) (Ev.rv (ev_ix (ea := (eT (e2 D.int D.int))) (eb := D.int) (ec := (e2 D.int D.int)) (fun a4 b5 => atI a4 b5) op_ixT (Ev.rv (ev_ixF (ea := (e2 D.int (eT (e2 D.int D.int)))) (eb := (eT (e2 D.int D.int))) (1 : Int) (fun x => x.2) (fun _ => rfl) (Ev.rv (ev_var (ea := (e2 D.int (eT (e2 D.int D.int)))) 0 web rfl)) (Ev.rv (ev_c (ea := D.int) (1 : Int) rfl)))) (Ev.rv (ev_var (ea := D.int) 2 j rfl))))) (ev_bin (ea := D.int) (eb := (e2 D.int D.int)) (ec := D.bl) (fun a11 b12 => some (inP a11 b12)) (op_inP pyE_int) (Ev.rv (ev_var (ea := D.int) 4 v3.2 rfl)) (Ev.rv (ev_ix (ea := (eT (e2 D.int D.int))) (eb := D.int) (ec := (e2 D.int D.int)) (fun a9 b10 => atI a9 b10) op_ixT (Ev.rv (ev_ixF (ea := (e2 D.int (eT (e2 D.int D.int)))) (eb := (eT (e2 D.int D.int))) (1 : Int) (fun x => x.2) (fun _ => rfl) (Ev.rv (ev_var (ea := (e2 D.int (eT (e2 D.int D.int)))) 0 web rfl)) (Ev.rv (ev_c (ea := D.int) (1 : Int) rfl)))) (Ev.rv (ev_var (ea := D.int) 2 j rfl)))))) (by simp -implicitDefEqProofs only [Option.bind_some, Option.bind_fun_some]) : Ev _ _ _ (((atI web.2 j).bind fun x8 => some (inP v3.1 x8)).bind fun x14 => if x14 = true then some true else (atI web.2 j).bind fun x13 => some (inP v3.2 x13))) (fun _ => rfl)))))
theorem l_clashing (web : (Int × (List (Int × Int)))) (i : Int) : Fp (m_clashing) [.x ((e2 D.int (eT (e2 D.int D.int))) web), .x (D.int i)] (eL D.int) (t_clashing web i) := by
  unfold m_clashing t_clashing b_clashing
  exact fp_body (s := [.val ((e2 D.int (eT (e2 D.int D.int))) web), .val (D.int i), .any]) rfl rfl (sk_last (sk_ret0 (evE (ev_lcM (ei := D.int) (ef := D.int) (S1 := fun y2 => [.val ((e2 D.int (eT (e2 D.int D.int))) web), .val (D.int i), .val (D.int y2)]) (iv_rg (Ev.rv (ev_un (ea := (eT (e2 D.int D.int))) (eb := D.int) (fun a1 => some (len a1)) op_lenT (Ev.rv (ev_ixF (ea := (e2 D.int (eT (e2 D.int D.int)))) (eb := (eT (e2 D.int D.int))) (1 : Int) (fun x => x.2) (fun _ => rfl) (Ev.rv (ev_var (ea := (e2 D.int (eT (e2 D.int D.int)))) 0 web rfl)) (Ev.rv (ev_c (ea := D.int) (1 : Int) rfl))))))) (fun y2 => (tg_name rfl)) (fun y2 => (tvE (tv_and (tv_of (ev_bin (ea := D.int) (eb := D.int) (ec := D.bl) (fun a3 b4 => some (!decide (a3 = b4))) (op_ne (PyE.eq pyE_int)) (Ev.rv (ev_var (ea := D.int) 2 y2 rfl)) (Ev.rv (ev_var (ea := D.int) 1 i rfl)))) (tv_of (ev_call (ea := D.bl) (t := fun (p : ((Int × (List (Int × Int))) × Int × Int × Unit)) => t_clash p.1 p.2.1 p.2.2.1) (fun (p : ((Int × (List (Int × Int))) × Int × Int × Unit)) => (l_clash  p.1 p.2.1 p.2.2.1)) (cv_x (ev_var (ea := (e2 D.int (eT (e2 D.int D.int)))) 0 web rfl) (cv_x (ev_var (ea := D.int) 1 i rfl) (cv_x (ev_var (ea := D.int) 2 y2 rfl) cv_nil)))))) (by simp -implicitDefEqProofs only [Option.bind_some, Option.bind_fun_some]) : Tv _ _ (if (!decide (y2 = i)) = true then t_clash web i y2 else some false))) (fun y2 => (evE (ev_var (ea := D.int) 2 y2 rfl) (by simp -implicitDefEqProofs only [Option.bind_some, Option.bind_fun_some]) : Ev _ _ _ (some y2)))) (by simp -implicitDefEqProofs only [Option.bind_some, Option.bind_fun_some]) : Ev _ _ _ ((rg (len web.2)).bind fun x5 => lcM (fun y2 => if (!decide (y2 = i)) = true then t_clash web i y2 else some false) (fun y2 => some y2) x5)) (fun _ => rfl)))
theorem l_with_meeting (web : (Int × (List (Int × Int)))) (a : Int) (b : Int) : Fp (m_with_meeting) [.x ((e2 D.int (eT (e2 D.int D.int))) web), .x (D.int a), .x (D.int b)] (e2 D.int (eT (e2 D.int D.int))) (t_with_meeting web a b) := by
  unfold m_with_meeting t_with_meeting b_with_meeting
  exact fp_body (s := [.val ((e2 D.int (eT (e2 D.int D.int))) web), .val (D.int a), .val (D.int b)]) rfl rfl (sk_last (sk_ret0 (evE (ev_tup (L := (fun p : Int × (List (Int × Int)) × Unit => [D.int p.1, (eT (e2 D.int D.int)) p.2.1])) (e := (e2 D.int (eT (e2 D.int D.int)))) (fun p => (p.1, p.2.1)) (fun _ => rfl) (fun _ => bigK 2 rfl) (av_cons (ev_ixF (ea := (e2 D.int (eT (e2 D.int D.int)))) (eb := D.int) (0 : Int) (fun x => x.1) (fun _ => rfl) (Ev.rv (ev_var (ea := (e2 D.int (eT (e2 D.int D.int)))) 0 web rfl)) (Ev.rv (ev_c (ea := D.int) (0 : Int) rfl))) (av_cons (ev_bin (ea := (eT (e2 D.int D.int))) (eb := (eT (e2 D.int D.int))) (ec := (eT (e2 D.int D.int))) (fun a1 b2 => catG a1 b2) op_catT (Ev.rv (ev_ixF (ea := (e2 D.int (eT (e2 D.int D.int)))) (eb := (eT (e2 D.int D.int))) (1 : Int) (fun x => x.2) (fun _ => rfl) (Ev.rv (ev_var (ea := (e2 D.int (eT (e2 D.int D.int)))) 0 web rfl)) (Ev.rv (ev_c (ea := D.int) (1 : Int) rfl)))) (Ev.rv (ev_tup (L := (fun p : (Int × Int) × Unit => [(e2 D.int D.int) p.1])) (e := (eT (e2 D.int D.int))) (fun p => [p.1]) (fun _ => rfl) (fun _ => bigK 1 rfl) (av_cons (ev_tup (L := (fun p : Int × Int × Unit => [D.int p.1, D.int p.2.1])) (e := (e2 D.int D.int)) (fun p => (p.1, p.2.1)) (fun _ => rfl) (fun _ => bigK 2 rfl) (av_cons (ev_var (ea := D.int) 1 a rfl) (av_cons (ev_var (ea := D.int) 2 b rfl) av_nil))) av_nil)))) av_nil))) (by simp -implicitDefEqProofs only [Option.bind_some, Option.bind_fun_some]) : Ev _ _ _ ((((catG web.2 [(a, b)]).bind fun x3 => some (x3, ())).bind fun q4 => some (web.1, q4)).bind fun q5 => some (q5.1, q5.2.1))) (fun _ => rfl)))
theorem l_groupings (web : (Int × (List (Int × Int)))) : Fp (m_groupings) [.x ((e2 D.int (eT (e2 D.int D.int))) web)] (eDK kI D.int) (t_groupings web) := by
  unfold m_groupings t_groupings b_groupings
  exact fp_body (s := [.val ((e2 D.int (eT (e2 D.int D.int))) web), .any, .any, .any, .any, .any, .any, .any]) rfl rfl (sk_set' (S1 := [.val ((e2 D.int (eT (e2 D.int D.int))) web), .val ((eL (eT (eT D.int))) [[]]), .any, .any, .any, .any, .any, .any]) 1 ((ev_lst (L := (fun p : (List (List Int)) × Unit => [(eT (eT D.int)) p.1])) (e := (eL (eT (eT D.int)))) (fun p => [p.1]) (fun _ => rfl) (fun _ => bigK 1 rfl) (av_cons (ev_tup (L := fun _ : Unit => []) (e := (eT (eT D.int))) (fun _ => []) (fun _ => rfl) (fun _ => bigK 0 rfl) av_nil) av_nil)) : Ev _ _ (eL (eT (eT D.int))) (some [[]])) rfl (sk_forM (σ := (List (List (List Int)))) (S := fun s2 => [.val ((e2 D.int (eT (e2 D.int D.int))) web), .val ((eL (eT (eT D.int))) s2), .any, .any, .any, .any, .any, .any]) (C := fun s2 => none) (S1 := fun s2 y3 => [.val ((e2 D.int (eT (e2 D.int D.int))) web), .val ((eL (eT (eT D.int))) s2), .val (D.int y3), .any, .any, .any, .any, .any]) (fun _ => [[]]) (ig_iv (e := D.int) (ivE (iv_rg (Ev.rv (ev_un (ea := (eT (e2 D.int D.int))) (eb := D.int) (fun a1 => some (len a1)) op_lenT (Ev.rv (ev_ixF (ea := (e2 D.int (eT (e2 D.int D.int)))) (eb := (eT (e2 D.int D.int))) (1 : Int) (fun x => x.2) (fun _ => rfl) (Ev.rv (ev_var (ea := (e2 D.int (eT (e2 D.int D.int)))) 0 web rfl)) (Ev.rv (ev_c (ea := D.int) (1 : Int) rfl))))))) (by simp -implicitDefEqProofs only [Option.bind_some, Option.bind_fun_some]) : Iv _ _ _ (rg (len web.2)))) (fun _ => wk_of _ [0, 0, 0, 0, 0, 0, 0, 0]) (fun _ => rfl) (fun s2 y3 => (tg_name rfl)) (fun s2 y3 => (sk_new' (w := (oL (eT (eT D.int)))) (S1 := [.val ((e2 D.int (eT (e2 D.int D.int))) web), .val ((eL (eT (eT D.int))) s2), .val (D.int y3), .own ((oL (eT (eT D.int))) []), .any, .any, .any, .any]) 3 ((nv_lst (L := fun _ : Unit => []) (w := (oL (eT (eT D.int)))) (fun _ => []) (fun _ => rfl) (fun _ => bigK 0 rfl) av_nil) : Nv _ _ _ (some [])) rfl (sk_assoc (sk_forM' (σ := (List (List (List Int)))) (S := fun s5 => [.val ((e2 D.int (eT (e2 D.int D.int))) web), .val ((eL (eT (eT D.int))) s2), .val (D.int y3), .own ((oL (eT (eT D.int))) s5), .any, .any, .any, .any]) (C := fun s5 => none) (S1 := fun s5 y6 => [.val ((e2 D.int (eT (e2 D.int D.int))) web), .val ((eL (eT (eT D.int))) s2), .val (D.int y3), .own ((oL (eT (eT D.int))) s5), .val ((eT (eT D.int)) y6), .any, .any, .any]) [] (ig_iv' (e := (eT (eT D.int))) ((iv_lst (ea := (eT (eT D.int))) (ev_var (ea := (eL (eT (eT D.int)))) 1 s2 rfl)) : Iv _ _ _ (some s2))) (wk_of _ [0, 0, 0, 0, 0, 0, 0, 0]) rfl (fun s5 y6 => (tg_name rfl)) (fun s5 y6 => (sk_forM (σ := (List (List (List Int)))) (S := fun s8 => [.val ((e2 D.int (eT (e2 D.int D.int))) web), .val ((eL (eT (eT D.int))) s2), .val (D.int y3), .own ((oL (eT (eT D.int))) s8), .val ((eT (eT D.int)) y6), .any, .any, .any]) (C := fun s8 => none) (S1 := fun s8 y9 => [.val ((e2 D.int (eT (e2 D.int D.int))) web), .val ((eL (eT (eT D.int))) s2), .val (D.int y3), .own ((oL (eT (eT D.int))) s8), .val ((eT (eT D.int)) y6), .val (D.int y9), .any, .any]) (fun _ => s5) (ig_iv (e := D.int) (ivE (iv_rg (Ev.rv (ev_un (ea := (eT (eT D.int))) (eb := D.int) (fun a7 => some (len a7)) op_lenT (Ev.rv (ev_var (ea := (eT (eT D.int))) 4 y6 rfl))))) (by simp -implicitDefEqProofs only [Option.bind_some, Option.bind_fun_some]) : Iv _ _ _ (rg (len y6)))) (fun _ => wk_of _ [0, 0, 0, 0, 0, 0, 0, 0]) (fun _ => rfl) (fun s8 y9 => (tg_name rfl)) (fun s8 y9 => (sk_last (sk_if (tvE (tv_of (ev_bin (ea := D.int) (eb := D.int) (ec := D.bl) (fun a16 b17 => some (decide (a16 = b17))) (op_eq (PyE.eq pyE_int)) (Ev.rv (ev_un (ea := (eL D.int)) (eb := D.int) (fun a14 => some (len a14)) op_lenL (Ev.rv (ev_lcM (ei := D.int) (ef := D.int) (S1 := fun y12 => [.val ((e2 D.int (eT (e2 D.int D.int))) web), .val ((eL (eT (eT D.int))) s2), .val (D.int y3), .own ((oL (eT (eT D.int))) s8), .val ((eT (eT D.int)) y6), .val (D.int y9), .any, .val (D.int y12)]) (iv_tup (ea := D.int) (ev_ix (ea := (eT (eT D.int))) (eb := D.int) (ec := (eT D.int)) (fun a10 b11 => atI a10 b11) op_ixT (Ev.rv (ev_var (ea := (eT (eT D.int))) 4 y6 rfl)) (Ev.rv (ev_var (ea := D.int) 5 y9 rfl)))) (fun y12 => (tg_name rfl)) (fun y12 => (tvE (tv_of (ev_call (ea := D.bl) (t := fun (p : ((Int × (List (Int × Int))) × Int × Int × Unit)) => t_clash p.1 p.2.1 p.2.2.1) (fun (p : ((Int × (List (Int × Int))) × Int × Int × Unit)) => (l_clash  p.1 p.2.1 p.2.2.1)) (cv_x (ev_var (ea := (e2 D.int (eT (e2 D.int D.int)))) 0 web rfl) (cv_x (ev_var (ea := D.int) 2 y3 rfl) (cv_x (ev_var (ea := D.int) 7 y12 rfl) cv_nil))))) (by simp -implicitDefEqProofs only [Option.bind_some, Option.bind_fun_some]) : Tv _ _ (t_clash web y3 y12))) (fun y12 => (evE (ev_c (ea := D.int) (1 : Int) rfl) (by simp -implicitDefEqProofs only [Option.bind_some, Option.bind_fun_some]) : Ev _ _ _ (some (1 : Int)))))))) (Ev.rv (ev_c (ea := D.int) (0 : Int) rfl)))) (by simp -implicitDefEqProofs only [Option.bind_some, Option.bind_fun_some]) : Tv _ _ ((((atI y6 y9).bind fun x13 => lcM (fun y12 => t_clash web y3 y12) (fun y12 => some (1 : Int)) x13).bind fun x15 => some (len x15)).bind fun x18 => some (decide (x18 = (0 : Int))))) (sk_app (e := (eT (eT D.int))) (S1 := fun later19 => [.val ((e2 D.int (eT (e2 D.int D.int))) web), .val ((eL (eT (eT D.int))) s2), .val (D.int y3), .own ((oL (eT (eT D.int))) later19), .val ((eT (eT D.int)) y6), .val (D.int y9), .any, .any]) 3 rfl (evE (ev_bin (ea := (eT (eT D.int))) (eb := (eT (eT D.int))) (ec := (eT (eT D.int))) (fun a32 b33 => catG a32 b33) op_catT (Ev.rv (ev_bin (ea := (eT (eT D.int))) (eb := (eT (eT D.int))) (ec := (eT (eT D.int))) (fun a27 b28 => catG a27 b28) op_catT (Ev.rv (ev_slT (e := (eT D.int)) (Ev.rv (ev_var (ea := (eT (eT D.int))) 4 y6 rfl)) ov_none (ov_some (Ev.rv (ev_var (ea := D.int) 5 y9 rfl))))) (Ev.rv (ev_tup (L := (fun p : (List Int) × Unit => [(eT D.int) p.1])) (e := (eT (eT D.int))) (fun p => [p.1]) (fun _ => rfl) (fun _ => bigK 1 rfl) (av_cons (ev_bin (ea := (eT D.int)) (eb := (eT D.int)) (ec := (eT D.int)) (fun a22 b23 => catG a22 b23) op_catT (Ev.rv (ev_ix (ea := (eT (eT D.int))) (eb := D.int) (ec := (eT D.int)) (fun a20 b21 => atI a20 b21) op_ixT (Ev.rv (ev_var (ea := (eT (eT D.int))) 4 y6 rfl)) (Ev.rv (ev_var (ea := D.int) 5 y9 rfl)))) (Ev.rv (ev_tup (L := (fun p : Int × Unit => [D.int p.1])) (e := (eT D.int)) (fun p => [p.1]) (fun _ => rfl) (fun _ => bigK 1 rfl) (av_cons (ev_var (ea := D.int) 2 y3 rfl) av_nil)))) av_nil))))) (Ev.rv (ev_slT (e := (eT D.int)) (Ev.rv (ev_var (ea := (eT (eT D.int))) 4 y6 rfl)) (ov_some (Ev.rv (ev_bin (ea := D.int) (eb := D.int) (ec := D.int) (fun a30 b31 => some (a30 + b31)) op_add (Ev.rv (ev_var (ea := D.int) 5 y9 rfl)) (Ev.rv (ev_c (ea := D.int) (1 : Int) rfl))))) ov_none))) (by simp -implicitDefEqProofs only [Option.bind_some, Option.bind_fun_some]) : Ev _ _ _ ((((((atI y6 y9).bind fun x24 => catG x24 [y3]).bind fun x25 => some (x25, ())).bind fun q26 => some [q26.1]).bind fun x29 => catG (cutD y6 none (some y9)) x29).bind fun x34 => catG x34 (cutD y6 (some (y9 + (1 : Int))) none))) (fun _ => rfl) (fun later19 => (sk_lp _ rfl (wk_of _ [0, 0, 0, 0, 0, 1, 0, 0])))) (sk_nilSeq (sk_lp _ rfl (wk_of _ [0, 0, 0, 0, 0, 1, 0, 0])))))) (fun s37 => (sk_last (sk_app (e := (eT (eT D.int))) (S1 := fun later38 => [.val ((e2 D.int (eT (e2 D.int D.int))) web), .val ((eL (eT (eT D.int))) s2), .val (D.int y3), .own ((oL (eT (eT D.int))) later38), .val ((eT (eT D.int)) y6), .any, .any, .any]) 3 rfl (evE (ev_bin (ea := (eT (eT D.int))) (eb := (eT (eT D.int))) (ec := (eT (eT D.int))) (fun a39 b40 => catG a39 b40) op_catT (Ev.rv (ev_var (ea := (eT (eT D.int))) 4 y6 rfl)) (Ev.rv (ev_tup (L := (fun p : (List Int) × Unit => [(eT D.int) p.1])) (e := (eT (eT D.int))) (fun p => [p.1]) (fun _ => rfl) (fun _ => bigK 1 rfl) (av_cons (ev_tup (L := (fun p : Int × Unit => [D.int p.1])) (e := (eT D.int)) (fun p => [p.1]) (fun _ => rfl) (fun _ => bigK 1 rfl) (av_cons (ev_var (ea := D.int) 2 y3 rfl) av_nil)) av_nil)))) (by simp -implicitDefEqProofs only [Option.bind_some, Option.bind_fun_some]) : Ev _ _ _ (catG y6 [[y3]])) (fun _ => rfl) (fun later38 => (sk_lp _ rfl (wk_of _ [0, 0, 0, 0, 1, 0, 0, 0])))))))) (fun s43 => (sk_frz (S1 := [.val ((e2 D.int (eT (e2 D.int D.int))) web), .val ((eL (eT (eT D.int))) s2), .val (D.int y3), .val ((eL (eT (eT D.int))) s43), .any, .any, .any, .any]) 3 rfl rfl rfl (sk_last (sk_set' (S1 := [.val ((e2 D.int (eT (e2 D.int D.int))) web), .val ((eL (eT (eT D.int))) s43), .val (D.int y3), .val ((eL (eT (eT D.int))) s43), .any, .any, .any, .any]) 1 ((ev_var (ea := (eL (eT (eT D.int)))) 3 s43 rfl) : Ev _ _ (eL (eT (eT D.int))) (some s43)) rfl (sk_lp _ rfl (wk_of _ [0, 0, 1, 1, 0, 0, 0, 0])))))))))) (fun s44 => (sk_new' (w := (oDK kI D.int)) (S1 := [.val ((e2 D.int (eT (e2 D.int D.int))) web), .val ((eL (eT (eT D.int))) s44), .any, .any, .any, .any, .own ((oDK kI D.int) []), .any]) 6 ((nv_dic (k := kI) (e := D.int)) : Nv _ _ _ (some [])) rfl (sk_assoc (sk_forM' (σ := (List (Int × Int))) (S := fun s46 => [.val ((e2 D.int (eT (e2 D.int D.int))) web), .val ((eL (eT (eT D.int))) s44), .any, .any, .any, .any, .own ((oDK kI D.int) s46), .any]) (C := fun s46 => none) (S1 := fun s46 y47 => [.val ((e2 D.int (eT (e2 D.int D.int))) web), .val ((eL (eT (eT D.int))) s44), .any, .any, .val ((eT (eT D.int)) y47), .any, .own ((oDK kI D.int) s46), .any]) [] (ig_iv' (e := (eT (eT D.int))) ((iv_lst (ea := (eT (eT D.int))) (ev_var (ea := (eL (eT (eT D.int)))) 1 s44 rfl)) : Iv _ _ _ (some s44))) (wk_of _ [0, 0, 0, 0, 0, 0, 0, 0]) rfl (fun s46 y47 => (tg_name rfl)) (fun s46 y47 => (sk_last (sk_putD' (e := D.int) (ek := D.int) (S1 := fun d48 => [.val ((e2 D.int (eT (e2 D.int D.int))) web), .val ((eL (eT (eT D.int))) s44), .any, .any, .val ((eT (eT D.int)) y47), .any, .own ((oDK kI D.int) d48), .any]) 6 keyOf_int kI_inj rfl (evE (ev_bin (ea := D.int) (eb := D.int) (ec := D.int) (fun a50 b51 => some (a50 + b51)) op_add (Ev.rv (ev_get2 (e := D.int) (fun _ => rfl) (dget_K keyOf_int kI_inj) (rv_own (ea := (eDK kI D.int)) 6 s46 rfl rfl) (Ev.rv (ev_un (ea := (eT (eT D.int))) (eb := D.int) (fun a49 => some (len a49)) op_lenT (Ev.rv (ev_var (ea := (eT (eT D.int))) 4 y47 rfl)))) (ev_c (ea := D.int) (0 : Int) rfl))) (Ev.rv (ev_c (ea := D.int) (1 : Int) rfl))) (by simp -implicitDefEqProofs only [Option.bind_some, Option.bind_fun_some]) : Ev _ _ _ (some (((dgetL s46 (len y47)).getD (0 : Int)) + (1 : Int)))) (rvE (Ev.rv (ev_un (ea := (eT (eT D.int))) (eb := D.int) (fun a52 => some (len a52)) op_lenT (Ev.rv (ev_var (ea := (eT (eT D.int))) 4 y47 rfl)))) (by simp -implicitDefEqProofs only [Option.bind_some, Option.bind_fun_some]) : Rv _ _ _ (some (len y47))) (fun _ => rfl) (fun d48 => (sk_lp _ rfl (wk_of _ [0, 0, 0, 0, 1, 0, 0, 0])))))) (fun s53 => (sk_frz (S1 := [.val ((e2 D.int (eT (e2 D.int D.int))) web), .val ((eL (eT (eT D.int))) s44), .any, .any, .any, .any, .val ((eDK kI D.int) s53), .any]) 6 rfl rfl rfl (sk_last (sk_ret' _ ((ev_var (ea := (eDK kI D.int)) 6 s53 rfl) : Ev _ _ _ (some s53)) rfl))))))))))
theorem l_group_count (web : (Int × (List (Int × Int)))) (g : Int) : Fp (m_group_count) [.x ((e2 D.int (eT (e2 D.int D.int))) web), .x (D.int g)] D.int (t_group_count web g) := by
  unfold m_group_count t_group_count b_group_count
  exact fp_body (s := [.val ((e2 D.int (eT (e2 D.int D.int))) web), .val (D.int g)]) rfl rfl (sk_last (sk_ret0 (evE (ev_get2 (e := D.int) (fun _ => rfl) (dget_K keyOf_int kI_inj) (Ev.rv (ev_call (ea := (eDK kI D.int)) (t := fun (p : ((Int × (List (Int × Int))) × Unit)) => t_groupings p.1) (fun (p : ((Int × (List (Int × Int))) × Unit)) => (l_groupings  p.1)) (cv_x (ev_var (ea := (e2 D.int (eT (e2 D.int D.int)))) 0 web rfl) cv_nil))) (Ev.rv (ev_var (ea := D.int) 1 g rfl)) (ev_c (ea := D.int) (0 : Int) rfl)) (by simp -implicitDefEqProofs only [Option.bind_some, Option.bind_fun_some]) : Ev _ _ _ ((t_groupings web).bind fun x1 => some ((dgetL x1 g).getD (0 : Int)))) (fun _ => rfl)))
theorem l_plan_count (web : (Int × (List (Int × Int)))) (k : Int) : Fp (m_plan_count) [.x ((e2 D.int (eT (e2 D.int D.int))) web), .x (D.int k)] D.int (t_plan_count web k) := by
  unfold m_plan_count t_plan_count b_plan_count
  exact fp_body (s := [.val ((e2 D.int (eT (e2 D.int D.int))) web), .val (D.int k), .any, .any, .any, .any, .any]) rfl rfl (sk_set' (S1 := [.val ((e2 D.int (eT (e2 D.int D.int))) web), .val (D.int k), .val (D.int (0 : Int)), .any, .any, .any, .any]) 2 ((ev_c (ea := D.int) (0 : Int) rfl) : Ev _ _ D.int (some (0 : Int))) rfl (sk_forM (σ := Int) (S := fun s2 => [.val ((e2 D.int (eT (e2 D.int D.int))) web), .val (D.int k), .val (D.int s2), .any, .any, .any, .any]) (C := fun s2 => none) (S1 := fun s2 y3 => [.val ((e2 D.int (eT (e2 D.int D.int))) web), .val (D.int k), .val (D.int s2), .val (D.int y3.1), .val (D.int y3.2), .any, .any]) (fun _ => (0 : Int)) (ig_iv (e := (e2 D.int D.int)) (ivE (iv_items (k := kI) (e := D.int) keyD_I (ev_call (ea := (eDK kI D.int)) (t := fun (p : ((Int × (List (Int × Int))) × Unit)) => t_groupings p.1) (fun (p : ((Int × (List (Int × Int))) × Unit)) => (l_groupings  p.1)) (cv_x (ev_var (ea := (e2 D.int (eT (e2 D.int D.int)))) 0 web rfl) cv_nil))) (by simp -implicitDefEqProofs only [Option.bind_some, Option.bind_fun_some]) : Iv _ _ _ ((t_groupings web).bind fun x1 => some x1))) (fun _ => wk_of _ [0, 0, 0, 0, 0, 0, 0]) (fun _ => rfl) (fun s2 y3 => (tg_tup rfl rfl rfl)) (fun s2 y3 => (sk_set' (S1 := [.val ((e2 D.int (eT (e2 D.int D.int))) web), .val (D.int k), .val (D.int s2), .val (D.int y3.1), .val (D.int y3.2), .val (D.int y3.2), .any]) 5 ((ev_var (ea := D.int) 4 y3.2 rfl) : Ev _ _ D.int (some y3.2)) rfl (sk_forM (σ := Int) (S := fun s4 => [.val ((e2 D.int (eT (e2 D.int D.int))) web), .val (D.int k), .val (D.int s2), .val (D.int y3.1), .val (D.int y3.2), .val (D.int s4), .any]) (C := fun s4 => none) (S1 := fun s4 y5 => [.val ((e2 D.int (eT (e2 D.int D.int))) web), .val (D.int k), .val (D.int s2), .val (D.int y3.1), .val (D.int y3.2), .val (D.int s4), .val (D.int y5)]) (fun _ => y3.2) (ig_iv (e := D.int) (ivE (iv_rg (Ev.rv (ev_var (ea := D.int) 3 y3.1 rfl))) (by simp -implicitDefEqProofs only [Option.bind_some, Option.bind_fun_some]) : Iv _ _ _ (rg y3.1))) (fun _ => wk_of _ [0, 0, 0, 0, 0, 0, 0]) (fun _ => rfl) (fun s4 y5 => (tg_name rfl)) (fun s4 y5 => (sk_last (sk_set (S1 := fun v10 => [.val ((e2 D.int (eT (e2 D.int D.int))) web), .val (D.int k), .val (D.int s2), .val (D.int y3.1), .val (D.int y3.2), .val (D.int v10), .val (D.int y5)]) 5 (evE (ev_bin (ea := D.int) (eb := D.int) (ec := D.int) (fun a8 b9 => mulG a8 b9) op_mul (Ev.rv (ev_var (ea := D.int) 5 s4 rfl)) (Ev.rv (ev_bin (ea := D.int) (eb := D.int) (ec := D.int) (fun a6 b7 => some (a6 - b7)) op_sub (Ev.rv (ev_var (ea := D.int) 1 k rfl)) (Ev.rv (ev_var (ea := D.int) 6 y5 rfl))))) (by simp -implicitDefEqProofs only [Option.bind_some, Option.bind_fun_some]) : Ev _ _ D.int (mulG s4 (k - y5))) (fun _ => rfl) (fun v10 => (sk_lp _ rfl (wk_of _ [0, 0, 0, 0, 0, 0, 1])))))) (fun s11 => (sk_last (sk_set' (S1 := [.val ((e2 D.int (eT (e2 D.int D.int))) web), .val (D.int k), .val (D.int (s2 + s11)), .val (D.int y3.1), .val (D.int y3.2), .val (D.int s11), .any]) 2 ((ev_bin (ea := D.int) (eb := D.int) (ec := D.int) (fun a12 b13 => some (a12 + b13)) op_add (Ev.rv (ev_var (ea := D.int) 2 s2 rfl)) (Ev.rv (ev_var (ea := D.int) 5 s11 rfl))) : Ev _ _ D.int (some (s2 + s11))) rfl (sk_lp _ rfl (wk_of _ [0, 0, 0, 1, 1, 1, 0])))))))) (fun s15 => (sk_last (sk_ret' _ ((ev_var (ea := D.int) 2 s15 rfl) : Ev _ _ _ (some s15)) rfl)))))
theorem l_free_days (web : (Int × (List (Int × Int)))) (plan : (List Int)) (person : Int) (k : Int) : Fp (m_free_days) [.x ((e2 D.int (eT (e2 D.int D.int))) web), .x ((eT D.int) plan), .x (D.int person), .x (D.int k)] (eL D.int) (t_free_days web plan person k) := by
  unfold m_free_days t_free_days b_free_days
  exact fp_body (s := [.val ((e2 D.int (eT (e2 D.int D.int))) web), .val ((eT D.int) plan), .val (D.int person), .val (D.int k), .any, .any, .any]) rfl rfl (sk_set (S1 := fun v5 => [.val ((e2 D.int (eT (e2 D.int D.int))) web), .val ((eT D.int) plan), .val (D.int person), .val (D.int k), .val ((eL D.int) v5), .any, .any]) 4 (evE (ev_mpM (ei := D.int) (ef := D.int) (S1 := fun y1 => [.val ((e2 D.int (eT (e2 D.int D.int))) web), .val ((eT D.int) plan), .val (D.int person), .val (D.int k), .any, .val (D.int y1), .any]) (iv_lst (ea := D.int) (ev_call (ea := (eL D.int)) (t := fun (p : ((Int × (List (Int × Int))) × Int × Unit)) => t_meetings_of p.1 p.2.1) (fun (p : ((Int × (List (Int × Int))) × Int × Unit)) => (l_meetings_of  p.1 p.2.1)) (cv_x (ev_var (ea := (e2 D.int (eT (e2 D.int D.int)))) 0 web rfl) (cv_x (ev_var (ea := D.int) 2 person rfl) cv_nil)))) (fun y1 => (tg_name rfl)) (fun y1 => (evE (ev_ix (ea := (eT D.int)) (eb := D.int) (ec := D.int) (fun a2 b3 => atI a2 b3) op_ixT (Ev.rv (ev_var (ea := (eT D.int)) 1 plan rfl)) (Ev.rv (ev_var (ea := D.int) 5 y1 rfl))) (by simp -implicitDefEqProofs only [Option.bind_some, Option.bind_fun_some]) : Ev _ _ _ (atI plan y1)))) (by simp -implicitDefEqProofs only [Option.bind_some, Option.bind_fun_some]) : Ev _ _ (eL D.int) ((t_meetings_of web person).bind fun x4 => mpM (fun y1 => atI plan y1) x4)) (fun _ => rfl) (fun v5 => (sk_last (sk_ret0 (evE (ev_lc (ei := D.int) (ef := D.int) (S1 := fun y6 => [.val ((e2 D.int (eT (e2 D.int D.int))) web), .val ((eT D.int) plan), .val (D.int person), .val (D.int k), .val ((eL D.int) v5), .any, .val (D.int y6)]) (iv_rg (Ev.rv (ev_var (ea := D.int) 3 k rfl))) (fun y6 => (tg_name rfl)) (fun y6 => (tvE (tv_of (ev_bin (ea := D.int) (eb := (eL D.int)) (ec := D.bl) (fun a7 b8 => some (!memB a7 b8)) (TL.op_ninL pyE_int) (Ev.rv (ev_var (ea := D.int) 6 y6 rfl)) (Ev.rv (ev_var (ea := (eL D.int)) 4 v5 rfl)))) (by simp -implicitDefEqProofs only [Option.bind_some, Option.bind_fun_some]) : Tv _ _ (some (!memB y6 v5)))) (fun y6 => (evE (ev_var (ea := D.int) 6 y6 rfl) (by simp -implicitDefEqProofs only [Option.bind_some, Option.bind_fun_some]) : Ev _ _ _ (some y6)))) (by simp -implicitDefEqProofs only [Option.bind_some, Option.bind_fun_some]) : Ev _ _ _ ((rg k).bind fun x9 => some ((x9.filter fun y6 => !memB y6 v5).map fun y6 => y6))) (fun _ => rfl)))))
theorem l_days_left (web : (Int × (List (Int × Int)))) (days : (List (Int × Int))) (i : Int) (k : Int) : Fp (m_days_left) [.x ((e2 D.int (eT (e2 D.int D.int))) web), .x ((eDK kI D.int) days), .x (D.int i), .x (D.int k)] (eL D.int) (t_days_left web days i k) := by
  unfold m_days_left t_days_left b_days_left
  exact fp_body (s := [.val ((e2 D.int (eT (e2 D.int D.int))) web), .val ((eDK kI D.int) days), .val (D.int i), .val (D.int k), .any, .any, .any]) rfl rfl (sk_set (S1 := fun v3 => [.val ((e2 D.int (eT (e2 D.int D.int))) web), .val ((eDK kI D.int) days), .val (D.int i), .val (D.int k), .val ((eL D.int) v3), .any, .any]) 4 (evE (ev_lcM (ei := D.int) (ef := D.int) (S1 := fun y1 => [.val ((e2 D.int (eT (e2 D.int D.int))) web), .val ((eDK kI D.int) days), .val (D.int i), .val (D.int k), .any, .val (D.int y1), .any]) (iv_lst (ea := D.int) (ev_call (ea := (eL D.int)) (t := fun (p : ((Int × (List (Int × Int))) × Int × Unit)) => t_clashing p.1 p.2.1) (fun (p : ((Int × (List (Int × Int))) × Int × Unit)) => (l_clashing  p.1 p.2.1)) (cv_x (ev_var (ea := (e2 D.int (eT (e2 D.int D.int)))) 0 web rfl) (cv_x (ev_var (ea := D.int) 2 i rfl) cv_nil)))) (fun y1 => (tg_name rfl)) (fun y1 => (tvE (tv_of (ev_inD (dget_K keyOf_int kI_inj) (Ev.rv (ev_var (ea := D.int) 5 y1 rfl)) (Ev.rv (ev_var (ea := (eDK kI D.int)) 1 days rfl)))) (by simp -implicitDefEqProofs only [Option.bind_some, Option.bind_fun_some]) : Tv _ _ (some (dhas days y1)))) (fun y1 => (evE (ev_getD (e := D.int) (dget_K keyOf_int kI_inj) (Ev.rv (ev_var (ea := (eDK kI D.int)) 1 days rfl)) (Ev.rv (ev_var (ea := D.int) 5 y1 rfl))) (by simp -implicitDefEqProofs only [Option.bind_some, Option.bind_fun_some]) : Ev _ _ _ (dgetL days y1)))) (by simp -implicitDefEqProofs only [Option.bind_some, Option.bind_fun_some]) : Ev _ _ (eL D.int) ((t_clashing web i).bind fun x2 => lcM (fun y1 => some (dhas days y1)) (fun y1 => dgetL days y1) x2)) (fun _ => rfl) (fun v3 => (sk_last (sk_ret0 (evE (ev_lc (ei := D.int) (ef := D.int) (S1 := fun y4 => [.val ((e2 D.int (eT (e2 D.int D.int))) web), .val ((eDK kI D.int) days), .val (D.int i), .val (D.int k), .val ((eL D.int) v3), .any, .val (D.int y4)]) (iv_rg (Ev.rv (ev_var (ea := D.int) 3 k rfl))) (fun y4 => (tg_name rfl)) (fun y4 => (tvE (tv_of (ev_bin (ea := D.int) (eb := (eL D.int)) (ec := D.bl) (fun a5 b6 => some (!memB a5 b6)) (TL.op_ninL pyE_int) (Ev.rv (ev_var (ea := D.int) 6 y4 rfl)) (Ev.rv (ev_var (ea := (eL D.int)) 4 v3 rfl)))) (by simp -implicitDefEqProofs only [Option.bind_some, Option.bind_fun_some]) : Tv _ _ (some (!memB y4 v3)))) (fun y4 => (evE (ev_var (ea := D.int) 6 y4 rfl) (by simp -implicitDefEqProofs only [Option.bind_some, Option.bind_fun_some]) : Ev _ _ _ (some y4)))) (by simp -implicitDefEqProofs only [Option.bind_some, Option.bind_fun_some]) : Ev _ _ _ ((rg k).bind fun x7 => some ((x7.filter fun y4 => !memB y4 v3).map fun y4 => y4))) (fun _ => rfl)))))
theorem l_days_to_try (web : (Int × (List (Int × Int)))) (days : (List (Int × Int))) (i : Int) (k : Int) : Fp (m_days_to_try) [.x ((e2 D.int (eT (e2 D.int D.int))) web), .x ((eDK kI D.int) days), .x (D.int i), .x (D.int k)] (eL D.int) (t_days_to_try web days i k) := by
  unfold m_days_to_try t_days_to_try b_days_to_try
  exact fp_body (s := [.val ((e2 D.int (eT (e2 D.int D.int))) web), .val ((eDK kI D.int) days), .val (D.int i), .val (D.int k), .any, .any, .any, .any]) rfl rfl (sk_set (S1 := fun v2 => [.val ((e2 D.int (eT (e2 D.int D.int))) web), .val ((eDK kI D.int) days), .val (D.int i), .val (D.int k), .val ((eL D.int) v2), .any, .any, .any]) 4 (evE (ev_mpM (ei := D.int) (ef := D.int) (S1 := fun y1 => [.val ((e2 D.int (eT (e2 D.int D.int))) web), .val ((eDK kI D.int) days), .val (D.int i), .val (D.int k), .any, .any, .val (D.int y1), .any]) (iv_keys (k := kI) (ek := D.int) (e := D.int) keyD_I (ev_var (ea := (eDK kI D.int)) 1 days rfl)) (fun y1 => (tg_name rfl)) (fun y1 => (evE (ev_getD (e := D.int) (dget_K keyOf_int kI_inj) (Ev.rv (ev_var (ea := (eDK kI D.int)) 1 days rfl)) (Ev.rv (ev_var (ea := D.int) 6 y1 rfl))) (by simp -implicitDefEqProofs only [Option.bind_some, Option.bind_fun_some]) : Ev _ _ _ (dgetL days y1)))) (by simp -implicitDefEqProofs only [Option.bind_some, Option.bind_fun_some]) : Ev _ _ (eL D.int) (mpM (fun y1 => dgetL days y1) (days.map (·.1)))) (fun _ => rfl) (fun v2 => (sk_set (S1 := fun v8 => [.val ((e2 D.int (eT (e2 D.int D.int))) web), .val ((eDK kI D.int) days), .val (D.int i), .val (D.int k), .val ((eL D.int) v2), .val ((eL D.int) v8), .any, .any]) 5 (evE (ev_slL (e := D.int) (Ev.rv (ev_lc (ei := D.int) (ef := D.int) (S1 := fun y3 => [.val ((e2 D.int (eT (e2 D.int D.int))) web), .val ((eDK kI D.int) days), .val (D.int i), .val (D.int k), .val ((eL D.int) v2), .any, .any, .val (D.int y3)]) (iv_rg (Ev.rv (ev_var (ea := D.int) 3 k rfl))) (fun y3 => (tg_name rfl)) (fun y3 => (tvE (tv_of (ev_bin (ea := D.int) (eb := (eL D.int)) (ec := D.bl) (fun a4 b5 => some (!memB a4 b5)) (TL.op_ninL pyE_int) (Ev.rv (ev_var (ea := D.int) 7 y3 rfl)) (Ev.rv (ev_var (ea := (eL D.int)) 4 v2 rfl)))) (by simp -implicitDefEqProofs only [Option.bind_some, Option.bind_fun_some]) : Tv _ _ (some (!memB y3 v2)))) (fun y3 => (evE (ev_var (ea := D.int) 7 y3 rfl) (by simp -implicitDefEqProofs only [Option.bind_some, Option.bind_fun_some]) : Ev _ _ _ (some y3))))) ov_none (ov_some (Ev.rv (ev_c (ea := D.int) (1 : Int) rfl)))) (by simp -implicitDefEqProofs only [Option.bind_some, Option.bind_fun_some]) : Ev _ _ (eL D.int) (((rg k).bind fun x6 => some ((x6.filter fun y3 => !memB y3 v2).map fun y3 => y3)).bind fun x7 => some (cutD x7 none (some (1 : Int))))) (fun _ => rfl) (fun v8 => (sk_last (sk_ret0 (evE (ev_lc (ei := D.int) (ef := D.int) (S1 := fun y9 => [.val ((e2 D.int (eT (e2 D.int D.int))) web), .val ((eDK kI D.int) days), .val (D.int i), .val (D.int k), .val ((eL D.int) v2), .val ((eL D.int) v8), .any, .val (D.int y9)]) (iv_lst (ea := D.int) (ev_call (ea := (eL D.int)) (t := fun (p : ((Int × (List (Int × Int))) × (List (Int × Int)) × Int × Int × Unit)) => t_days_left p.1 p.2.1 p.2.2.1 p.2.2.2.1) (fun (p : ((Int × (List (Int × Int))) × (List (Int × Int)) × Int × Int × Unit)) => (l_days_left  p.1 p.2.1 p.2.2.1 p.2.2.2.1)) (cv_x (ev_var (ea := (e2 D.int (eT (e2 D.int D.int)))) 0 web rfl) (cv_x (ev_var (ea := (eDK kI D.int)) 1 days rfl) (cv_x (ev_var (ea := D.int) 2 i rfl) (cv_x (ev_var (ea := D.int) 3 k rfl) cv_nil)))))) (fun y9 => (tg_name rfl)) (fun y9 => (tvE (tv_or' (tv_of (ev_bin (ea := D.int) (eb := (eL D.int)) (ec := D.bl) (fun a10 b11 => some (memB a10 b11)) (TL.op_inL pyE_int) (Ev.rv (ev_var (ea := D.int) 7 y9 rfl)) (Ev.rv (ev_var (ea := (eL D.int)) 4 v2 rfl)))) (tv_of (ev_bin (ea := D.int) (eb := (eL D.int)) (ec := D.bl) (fun a12 b13 => some (memB a12 b13)) (TL.op_inL pyE_int) (Ev.rv (ev_var (ea := D.int) 7 y9 rfl)) (Ev.rv (ev_var (ea := (eL D.int)) 5 v8 rfl))))) (by simp -implicitDefEqProofs only [Option.bind_some, Option.bind_fun_some]) : Tv _ _ (some ((memB y9 v2) || (memB y9 v8))))) (fun y9 => (evE (ev_var (ea := D.int) 7 y9 rfl) (by simp -implicitDefEqProofs only [Option.bind_some, Option.bind_fun_some]) : Ev _ _ _ (some y9)))) (by simp -implicitDefEqProofs only [Option.bind_some, Option.bind_fun_some]) : Ev _ _ _ ((t_days_left web days i k).bind fun x14 => some ((x14.filter fun y9 => (memB y9 v2) || (memB y9 v8)).map fun y9 => y9))) (fun _ => rfl)))))))
theorem l_with_day (days : (List (Int × Int))) (i : Int) (day : Int) : Fp (m_with_day) [.x ((eDK kI D.int) days), .x (D.int i), .x (D.int day)] (eDK kI D.int) (t_with_day days i day) := by
  unfold m_with_day t_with_day b_with_day
  exact fp_body (s := [.val ((eDK kI D.int) days), .val (D.int i), .val (D.int day), .any]) rfl rfl (sk_new' (w := (oDK kI D.int)) (S1 := [.val ((eDK kI D.int) days), .val (D.int i), .val (D.int day), .own ((oDK kI D.int) days)]) 3 ((nv_dict (k := kI) (e := D.int) (Ev.rv (ev_var (ea := (eDK kI D.int)) 0 days rfl))) : Nv _ _ _ (some days)) rfl (sk_assoc (sk_putD' (e := D.int) (ek := D.int) (S1 := fun d2 => [.val ((eDK kI D.int) days), .val (D.int i), .val (D.int day), .own ((oDK kI D.int) d2)]) 3 keyOf_int kI_inj rfl (evE (ev_var (ea := D.int) 2 day rfl) (by simp -implicitDefEqProofs only [Option.bind_some, Option.bind_fun_some]) : Ev _ _ _ (some day)) (rvE (Ev.rv (ev_var (ea := D.int) 1 i rfl)) (by simp -implicitDefEqProofs only [Option.bind_some, Option.bind_fun_some]) : Rv _ _ _ (some i)) (fun _ => rfl) (fun d2 => (sk_frz (S1 := [.val ((eDK kI D.int) days), .val (D.int i), .val (D.int day), .val ((eDK kI D.int) d2)]) 3 rfl rfl rfl (sk_last (sk_ret' _ ((ev_var (ea := (eDK kI D.int)) 3 d2 rfl) : Ev _ _ _ (some d2)) rfl)))))))
theorem l_hardest (web : (Int × (List (Int × Int)))) (days : (List (Int × Int))) (k : Int) : Fp (m_hardest) [.x ((e2 D.int (eT (e2 D.int D.int))) web), .x ((eDK kI D.int) days), .x (D.int k)] (eO D.int) (t_hardest web days k) := by
  unfold m_hardest t_hardest b_hardest
  exact fp_body (s := [.val ((e2 D.int (eT (e2 D.int D.int))) web), .val ((eDK kI D.int) days), .val (D.int k), .any, .any]) rfl rfl (sk_set (S1 := fun v4 => [.val ((e2 D.int (eT (e2 D.int D.int))) web), .val ((eDK kI D.int) days), .val (D.int k), .val ((eL D.int) v4), .any]) 3 (evE (ev_lc (ei := D.int) (ef := D.int) (S1 := fun y2 => [.val ((e2 D.int (eT (e2 D.int D.int))) web), .val ((eDK kI D.int) days), .val (D.int k), .any, .val (D.int y2)]) (iv_rg (Ev.rv (ev_un (ea := (eT (e2 D.int D.int))) (eb := D.int) (fun a1 => some (len a1)) op_lenT (Ev.rv (ev_ixF (ea := (e2 D.int (eT (e2 D.int D.int)))) (eb := (eT (e2 D.int D.int))) (1 : Int) (fun x => x.2) (fun _ => rfl) (Ev.rv (ev_var (ea := (e2 D.int (eT (e2 D.int D.int)))) 0 web rfl)) (Ev.rv (ev_c (ea := D.int) (1 : Int) rfl))))))) (fun y2 => (tg_name rfl)) (fun y2 => (tvE (tv_of (ev_ninD (dget_K keyOf_int kI_inj) (Ev.rv (ev_var (ea := D.int) 4 y2 rfl)) (Ev.rv (ev_var (ea := (eDK kI D.int)) 1 days rfl)))) (by simp -implicitDefEqProofs only [Option.bind_some, Option.bind_fun_some]) : Tv _ _ (some (!dhas days y2)))) (fun y2 => (evE (ev_var (ea := D.int) 4 y2 rfl) (by simp -implicitDefEqProofs only [Option.bind_some, Option.bind_fun_some]) : Ev _ _ _ (some y2)))) (by simp -implicitDefEqProofs only [Option.bind_some, Option.bind_fun_some]) : Ev _ _ (eL D.int) ((rg (len web.2)).bind fun x3 => some ((x3.filter fun y2 => !dhas days y2).map fun y2 => y2))) (fun _ => rfl) (fun v4 => (sk_if' ((tv_of (ev_bin (ea := D.int) (eb := D.int) (ec := D.bl) (fun a6 b7 => some (decide (a6 = b7))) (op_eq (PyE.eq pyE_int)) (Ev.rv (ev_un (ea := (eL D.int)) (eb := D.int) (fun a5 => some (len a5)) op_lenL (Ev.rv (ev_var (ea := (eL D.int)) 3 v4 rfl)))) (Ev.rv (ev_c (ea := D.int) (0 : Int) rfl)))) : Tv _ _ (some (decide ((len v4) = (0 : Int))))) (sk_ret' _ ((ev_cast (e' := (eO D.int)) (fun _ => none) (fun _ => rfl) (ev_c (ea := eU) () rfl)) : Ev _ _ _ (some none)) rfl) (sk_nilSeq (sk_last (sk_ret0 (evE (ev_some (ev_ixF (ea := (e2 D.int D.int)) (eb := D.int) (1 : Int) (fun x => x.2) (fun _ => rfl) (Ev.rv (ev_un (ea := (eL (e2 D.int D.int))) (eb := (e2 D.int D.int)) (fun a13 => minG ltP a13) (op_minL pyO_pair) (Ev.rv (ev_mpM (ei := D.int) (ef := (e2 D.int D.int)) (S1 := fun y8 => [.val ((e2 D.int (eT (e2 D.int D.int))) web), .val ((eDK kI D.int) days), .val (D.int k), .val ((eL D.int) v4), .val (D.int y8)]) (iv_lst (ea := D.int) (ev_var (ea := (eL D.int)) 3 v4 rfl)) (fun y8 => (tg_name rfl)) (fun y8 => (evE (ev_tup (L := (fun p : Int × Int × Unit => [D.int p.1, D.int p.2.1])) (e := (e2 D.int D.int)) (fun p => (p.1, p.2.1)) (fun _ => rfl) (fun _ => bigK 2 rfl) (av_cons (ev_un (ea := (eL D.int)) (eb := D.int) (fun a9 => some (len a9)) op_lenL (Ev.rv (ev_call (ea := (eL D.int)) (t := fun (p : ((Int × (List (Int × Int))) × (List (Int × Int)) × Int × Int × Unit)) => t_days_to_try p.1 p.2.1 p.2.2.1 p.2.2.2.1) (fun (p : ((Int × (List (Int × Int))) × (List (Int × Int)) × Int × Int × Unit)) => (l_days_to_try  p.1 p.2.1 p.2.2.1 p.2.2.2.1)) (cv_x (ev_var (ea := (e2 D.int (eT (e2 D.int D.int)))) 0 web rfl) (cv_x (ev_var (ea := (eDK kI D.int)) 1 days rfl) (cv_x (ev_var (ea := D.int) 4 y8 rfl) (cv_x (ev_var (ea := D.int) 2 k rfl) cv_nil))))))) (av_cons (ev_var (ea := D.int) 4 y8 rfl) av_nil))) (by simp -implicitDefEqProofs only [Option.bind_some, Option.bind_fun_some]) : Ev _ _ _ ((((t_days_to_try web days y8 k).bind fun x10 => some (len x10)).bind fun x11 => some (x11, y8, ())).bind fun q12 => some (q12.1, q12.2.1)))))))) (Ev.rv (ev_c (ea := D.int) (1 : Int) rfl)))) (by simp -implicitDefEqProofs only [Option.bind_some, Option.bind_fun_some]) : Ev _ _ _ ((((mpM (fun y8 => (((t_days_to_try web days y8 k).bind fun x10 => some (len x10)).bind fun x11 => some (x11, y8, ())).bind fun q12 => some (q12.1, q12.2.1)) v4).bind fun x14 => minG ltP x14).bind fun x15 => some x15.2).bind fun x16 => some (some x16))) (fun _ => rfl)))))))
theorem l_searched : ∀ (n : Nat) (web : (Int × (List (Int × Int)))) (k : Int) (days : (List (Int × Int))), Fp (m_searched n) [.x ((e2 D.int (eT (e2 D.int D.int))) web), .x (D.int k), .x ((eDK kI D.int) days)] (e2 (eO (eDK kI D.int)) id) (t_searched n web k days)
  | 0, _, _, _ => fun ck m es h a q => nomatch q
  | n + 1, web, k, days => by
    have ih := l_searched n
    show Fp (m_searched (n + 1)) [.x ((e2 D.int (eT (e2 D.int D.int))) web), .x (D.int k), .x ((eDK kI D.int) days)] (e2 (eO (eDK kI D.int)) id) (t_searched (n + 1) web k days)
    unfold m_searched t_searched b_searched
    exact fp_body (s := [.val ((e2 D.int (eT (e2 D.int D.int))) web), .val (D.int k), .val ((eDK kI D.int) days), .any, .any, .any, .any, .any, .any]) rfl rfl (sk_set (S1 := fun v1 => [.val ((e2 D.int (eT (e2 D.int D.int))) web), .val (D.int k), .val ((eDK kI D.int) days), .val ((eO D.int) v1), .any, .any, .any, .any, .any]) 3 (evE (ev_call (ea := (eO D.int)) (t := fun (p : ((Int × (List (Int × Int))) × (List (Int × Int)) × Int × Unit)) => t_hardest p.1 p.2.1 p.2.2.1) (fun (p : ((Int × (List (Int × Int))) × (List (Int × Int)) × Int × Unit)) => (l_hardest  p.1 p.2.1 p.2.2.1)) (cv_x (ev_var (ea := (e2 D.int (eT (e2 D.int D.int)))) 0 web rfl) (cv_x (ev_var (ea := (eDK kI D.int)) 2 days rfl) (cv_x (ev_var (ea := D.int) 1 k rfl) cv_nil)))) (by simp -implicitDefEqProofs only [Option.bind_some, Option.bind_fun_some]) : Ev _ _ (eO D.int) (t_hardest web days k)) (fun _ => rfl) (fun v1 => (sk_if' ((tv_of (ev_bin (ea := (eO D.int)) (eb := eU) (ec := D.bl) (fun a2 b3 => some a2.isNone) (op_isN (fun _ h => nomatch h)) (Ev.rv (ev_var (ea := (eO D.int)) 3 v1 rfl)) (Ev.rv (ev_c (ea := eU) () rfl)))) : Tv _ _ (some v1.isNone)) (sk_ret' _ ((ev_tup (L := (fun p : (Option (List (Int × Int))) × D × Unit => [(eO (eDK kI D.int)) p.1, id p.2.1])) (e := (e2 (eO (eDK kI D.int)) id)) (fun p => (p.1, p.2.1)) (fun _ => rfl) (fun _ => bigK 2 rfl) (av_cons (ev_some (ev_var (ea := (eDK kI D.int)) 2 days rfl)) (av_cons (ev_up (ev_c (ea := eU) () rfl)) av_nil))) : Ev _ _ _ (some (some days, eU ()))) rfl) (sk_nilSeq (sk_set (S1 := fun v8 => [.val ((e2 D.int (eT (e2 D.int D.int))) web), .val (D.int k), .val ((eDK kI D.int) days), .val ((eO D.int) v1), .val ((eL D.int) v8), .any, .any, .any, .any]) 4 (evE (ev_call (ea := (eL D.int)) (t := fun (p : ((Int × (List (Int × Int))) × (List (Int × Int)) × Int × Int × Unit)) => t_days_to_try p.1 p.2.1 p.2.2.1 p.2.2.2.1) (fun (p : ((Int × (List (Int × Int))) × (List (Int × Int)) × Int × Int × Unit)) => (l_days_to_try  p.1 p.2.1 p.2.2.1 p.2.2.2.1)) (cv_x (ev_var (ea := (e2 D.int (eT (e2 D.int D.int)))) 0 web rfl) (cv_x (ev_var (ea := (eDK kI D.int)) 2 days rfl) (cv_x (ev_get (ev_var (ea := (eO D.int)) 3 v1 rfl)) (cv_x (ev_var (ea := D.int) 1 k rfl) cv_nil))))) (by simp -implicitDefEqProofs only [Option.bind_some, Option.bind_fun_some]) : Ev _ _ (eL D.int) (((((v1).bind fun x4 => some (x4, k, ())).bind fun q5 => some (days, q5)).bind fun q6 => some (web, q6)).bind fun q7 => t_days_to_try q7.1 q7.2.1 q7.2.2.1 q7.2.2.2.1)) (fun _ => rfl) (fun v8 => (sk_if' ((tv_of (ev_bin (ea := D.int) (eb := D.int) (ec := D.bl) (fun a10 b11 => some (decide (a10 = b11))) (op_eq (PyE.eq pyE_int)) (Ev.rv (ev_un (ea := (eL D.int)) (eb := D.int) (fun a9 => some (len a9)) op_lenL (Ev.rv (ev_var (ea := (eL D.int)) 4 v8 rfl)))) (Ev.rv (ev_c (ea := D.int) (0 : Int) rfl)))) : Tv _ _ (some (decide ((len v8) = (0 : Int))))) (sk_ret' _ ((ev_tup (L := (fun p : (Option (List (Int × Int))) × D × Unit => [(eO (eDK kI D.int)) p.1, id p.2.1])) (e := (e2 (eO (eDK kI D.int)) id)) (fun p => (p.1, p.2.1)) (fun _ => rfl) (fun _ => bigK 2 rfl) (av_cons (ev_cast (e' := (eO (eDK kI D.int))) (fun _ => none) (fun _ => rfl) (ev_c (ea := eU) () rfl)) (av_cons (ev_up (ev_tup (L := (fun p : Str × (Option Int) × Unit => [D.str p.1, (eO D.int) p.2.1])) (e := (e2 D.str (eO D.int))) (fun p => (p.1, p.2.1)) (fun _ => rfl) (fun _ => bigK 2 rfl) (av_cons (ev_c (ea := D.str) ("stuck" : Str) rfl) (av_cons (ev_var (ea := (eO D.int)) 3 v1 rfl) av_nil)))) av_nil))) : Ev _ _ _ (some (none, (e2 D.str (eO D.int)) (("stuck" : Str), v1)))) rfl) (sk_nilSeq (sk_new' (w := (oL id)) (S1 := [.val ((e2 D.int (eT (e2 D.int D.int))) web), .val (D.int k), .val ((eDK kI D.int) days), .val ((eO D.int) v1), .val ((eL D.int) v8), .own ((oL id) []), .any, .any, .any]) 5 ((nv_lst (L := fun _ : Unit => []) (w := (oL id)) (fun _ => []) (fun _ => rfl) (fun _ => bigK 0 rfl) av_nil) : Nv _ _ _ (some [])) rfl (sk_assoc (sk_forX' (σ := (List D)) (ρ' := ((Option (List (Int × Int))) × D)) (R := fun r => r) (S := fun s13 => [.val ((e2 D.int (eT (e2 D.int D.int))) web), .val (D.int k), .val ((eDK kI D.int) days), .val ((eO D.int) v1), .val ((eL D.int) v8), .own ((oL id) s13), .any, .any, .any]) (C := fun s13 => none) (S1 := fun s13 y14 => [.val ((e2 D.int (eT (e2 D.int D.int))) web), .val (D.int k), .val ((eDK kI D.int) days), .val ((eO D.int) v1), .val ((eL D.int) v8), .own ((oL id) s13), .val (D.int y14), .any, .any]) [] (fun _ => by exact trivial) (ig_iv' (e := D.int) ((iv_lst (ea := D.int) (ev_var (ea := (eL D.int)) 4 v8 rfl)) : Iv _ _ _ (some v8))) (wk_of _ [0, 0, 0, 0, 0, 0, 0, 0, 0]) rfl (fun s13 y14 => (tg_name rfl)) (fun s13 y14 => (sk_asg (S1 := fun v22 => [.val ((e2 D.int (eT (e2 D.int D.int))) web), .val (D.int k), .val ((eDK kI D.int) days), .val ((eO D.int) v1), .val ((eL D.int) v8), .own ((oL id) s13), .val (D.int y14), .val ((eO (eDK kI D.int)) v22.1), .val (id v22.2)]) (evE (ev_call (ea := (e2 (eO (eDK kI D.int)) id)) (t := fun (p : ((Int × (List (Int × Int))) × Int × (List (Int × Int)) × Unit)) => t_searched n p.1 p.2.1 p.2.2.1) (fun (p : ((Int × (List (Int × Int))) × Int × (List (Int × Int)) × Unit)) => (ih p.1 p.2.1 p.2.2.1)) (cv_x (ev_var (ea := (e2 D.int (eT (e2 D.int D.int)))) 0 web rfl) (cv_x (ev_var (ea := D.int) 1 k rfl) (cv_x (ev_call (ea := (eDK kI D.int)) (t := fun (p : ((List (Int × Int)) × Int × Int × Unit)) => t_with_day p.1 p.2.1 p.2.2.1) (fun (p : ((List (Int × Int)) × Int × Int × Unit)) => (l_with_day  p.1 p.2.1 p.2.2.1)) (cv_x (ev_var (ea := (eDK kI D.int)) 2 days rfl) (cv_x (ev_get (ev_var (ea := (eO D.int)) 3 v1 rfl)) (cv_x (ev_var (ea := D.int) 6 y14 rfl) cv_nil)))) cv_nil)))) (by simp -implicitDefEqProofs only [Option.bind_some, Option.bind_fun_some]) : Ev _ _ (e2 (eO (eDK kI D.int)) id) ((((((((v1).bind fun x15 => some (x15, y14, ())).bind fun q16 => some (days, q16)).bind fun q17 => t_with_day q17.1 q17.2.1 q17.2.2.1).bind fun x18 => some (x18, ())).bind fun q19 => some (k, q19)).bind fun q20 => some (web, q20)).bind fun q21 => t_searched n q21.1 q21.2.1 q21.2.2.1)) (fun _ => tg_tup rfl rfl rfl) (fun v22 => (sk_if (tvE (tv_of (ev_bin (ea := id) (eb := eU) (ec := D.bl) (fun a23 b24 => isNoneD a23) op_isND (Ev.rv (ev_var (ea := id) 8 v22.2 rfl)) (Ev.rv (ev_c (ea := eU) () rfl)))) (by simp -implicitDefEqProofs only [Option.bind_some, Option.bind_fun_some]) : Tv _ _ (isNoneD v22.2)) (sk_ret' _ ((ev_tup (L := (fun p : (Option (List (Int × Int))) × D × Unit => [(eO (eDK kI D.int)) p.1, id p.2.1])) (e := (e2 (eO (eDK kI D.int)) id)) (fun p => (p.1, p.2.1)) (fun _ => rfl) (fun _ => bigK 2 rfl) (av_cons (ev_var (ea := (eO (eDK kI D.int))) 7 v22.1 rfl) (av_cons (ev_up (ev_c (ea := eU) () rfl)) av_nil))) : Ev _ _ _ (some (v22.1, eU ()))) rfl) (sk_nilSeq (sk_last (sk_app' (e := id) (S1 := fun papers25 => [.val ((e2 D.int (eT (e2 D.int D.int))) web), .val (D.int k), .val ((eDK kI D.int) days), .val ((eO D.int) v1), .val ((eL D.int) v8), .own ((oL id) papers25), .val (D.int y14), .val ((eO (eDK kI D.int)) v22.1), .val (id v22.2)]) 5 rfl ((ev_var (ea := id) 8 v22.2 rfl) : Ev _ _ _ (some v22.2)) (fun _ => rfl) (fun papers25 => (sk_lp _ rfl (wk_of _ [0, 0, 0, 0, 0, 0, 1, 1, 1])))))))))) (fun s27 => (sk_frz (S1 := [.val ((e2 D.int (eT (e2 D.int D.int))) web), .val (D.int k), .val ((eDK kI D.int) days), .val ((eO D.int) v1), .val ((eL D.int) v8), .val ((eL id) s27), .any, .any, .any]) 5 rfl rfl rfl (sk_last (sk_ret' _ ((ev_tup (L := (fun p : (Option (List (Int × Int))) × D × Unit => [(eO (eDK kI D.int)) p.1, id p.2.1])) (e := (e2 (eO (eDK kI D.int)) id)) (fun p => (p.1, p.2.1)) (fun _ => rfl) (fun _ => bigK 2 rfl) (av_cons (ev_cast (e' := (eO (eDK kI D.int))) (fun _ => none) (fun _ => rfl) (ev_c (ea := eU) () rfl)) (av_cons (ev_up (ev_tup (L := (fun p : Str × (Option Int) × (List D) × Unit => [D.str p.1, (eO D.int) p.2.1, (eT id) p.2.2.1])) (e := (e3 D.str (eO D.int) (eT id))) (fun p => (p.1, p.2.1, p.2.2.1)) (fun _ => rfl) (fun _ => bigK 3 rfl) (av_cons (ev_c (ea := D.str) ("try" : Str) rfl) (av_cons (ev_var (ea := (eO D.int)) 3 v1 rfl) (av_cons (ev_un (ea := (eL id)) (eb := (eT id)) (fun a28 => some a28) op_tupL (Ev.rv (ev_var (ea := (eL id)) 5 s27 rfl))) av_nil))))) av_nil))) : Ev _ _ _ (some (none, (e3 D.str (eO D.int) (eT id)) (("try" : Str), v1, s27)))) rfl)))))))))))))))
theorem l_plan_within (web : (Int × (List (Int × Int)))) (k : Int) : Fp (m_plan_within) [.x ((e2 D.int (eT (e2 D.int D.int))) web), .x (D.int k)] (eO (eT D.int)) (t_plan_within web k) := by
  unfold m_plan_within t_plan_within b_plan_within
  exact fp_body (s := [.val ((e2 D.int (eT (e2 D.int D.int))) web), .val (D.int k), .any, .any, .any]) rfl rfl (sk_asg (S1 := fun v1 => [.val ((e2 D.int (eT (e2 D.int D.int))) web), .val (D.int k), .val ((eO (eDK kI D.int)) v1.1), .val (id v1.2), .any]) (evE (ev_call (ea := (e2 (eO (eDK kI D.int)) id)) (t := fun (p : ((Int × (List (Int × Int))) × Int × (List (Int × Int)) × Unit)) => t_searched 20 p.1 p.2.1 p.2.2.1) (fun (p : ((Int × (List (Int × Int))) × Int × (List (Int × Int)) × Unit)) => (l_searched 20  p.1 p.2.1 p.2.2.1)) (cv_x (ev_var (ea := (e2 D.int (eT (e2 D.int D.int)))) 0 web rfl) (cv_x (ev_var (ea := D.int) 1 k rfl) (cv_x (ev_dic0 (k := kI) (e := D.int)) cv_nil)))) (by simp -implicitDefEqProofs only [Option.bind_some, Option.bind_fun_some]) : Ev _ _ (e2 (eO (eDK kI D.int)) id) (t_searched 20 web k [])) (fun _ => tg_tup rfl rfl rfl) (fun v1 => (sk_if (tvE (tv_of (ev_bin (ea := id) (eb := eU) (ec := D.bl) (fun a2 b3 => notNoneD a2) op_notND (Ev.rv (ev_var (ea := id) 3 v1.2 rfl)) (Ev.rv (ev_c (ea := eU) () rfl)))) (by simp -implicitDefEqProofs only [Option.bind_some, Option.bind_fun_some]) : Tv _ _ (notNoneD v1.2)) (sk_ret' _ ((ev_cast (e' := (eO (eT D.int))) (fun _ => none) (fun _ => rfl) (ev_c (ea := eU) () rfl)) : Ev _ _ _ (some none)) rfl) (sk_nilSeq (sk_last (sk_ret0 (evE (ev_some (ev_un (ea := (eL D.int)) (eb := (eT D.int)) (fun a8 => some a8) op_tupL (Ev.rv (ev_mpM (ei := D.int) (ef := D.int) (S1 := fun y5 => [.val ((e2 D.int (eT (e2 D.int D.int))) web), .val (D.int k), .val ((eO (eDK kI D.int)) v1.1), .val (id v1.2), .val (D.int y5)]) (iv_rg (Ev.rv (ev_un (ea := (eT (e2 D.int D.int))) (eb := D.int) (fun a4 => some (len a4)) op_lenT (Ev.rv (ev_ixF (ea := (e2 D.int (eT (e2 D.int D.int)))) (eb := (eT (e2 D.int D.int))) (1 : Int) (fun x => x.2) (fun _ => rfl) (Ev.rv (ev_var (ea := (e2 D.int (eT (e2 D.int D.int)))) 0 web rfl)) (Ev.rv (ev_c (ea := D.int) (1 : Int) rfl))))))) (fun y5 => (tg_name rfl)) (fun y5 => (evE (ev_getD (e := D.int) (dget_K keyOf_int kI_inj) (Ev.rv (ev_get (ev_var (ea := (eO (eDK kI D.int))) 2 v1.1 rfl))) (Ev.rv (ev_var (ea := D.int) 4 y5 rfl))) (by simp -implicitDefEqProofs only [Option.bind_some, Option.bind_fun_some]) : Ev _ _ _ ((v1.1).bind fun x6 => dgetL x6 y5))))))) (by simp -implicitDefEqProofs only [Option.bind_some, Option.bind_fun_some]) : Ev _ _ _ ((((rg (len web.2)).bind fun x7 => mpM (fun y5 => (v1.1).bind fun x6 => dgetL x6 y5) x7).bind fun x9 => some x9).bind fun x10 => some (some x10))) (fun _ => rfl)))))))
theorem l__law_plain (row : List Int) (tot : Int) (most : Int) (limit : Int) (c : Int) : Fd (m__law_plain) [.deal row tot, .x (D.int most), .x (D.int limit)] (e2 D.int (eT (e2 D.int D.int))) c (t__law_plain row tot most limit c) := by
  unfold m__law_plain t__law_plain b__law_plain
  exact fd_body (s := [.deal row tot, .val (D.int most), .val (D.int limit), .any, .any, .any, .any, .any, .any, .any]) rfl rfl (sk_setD (S1 := fun v3 => [.deal row tot, .val (D.int most), .val (D.int limit), .val (D.int v3), .any, .any, .any, .any, .any, .any]) 3 (dvE (dv_call (ea := D.int) (t := fun (p : (Int × Unit)) => t__law_take row tot p.1 c) (fun (p : (Int × Unit)) => (l__law_take  row tot p.1 c)) (cv_deal 0 rfl (cv_x (ev_bin (ea := D.int) (eb := D.int) (ec := D.int) (fun a1 b2 => some (a1 + b2)) op_add (Ev.rv (ev_var (ea := D.int) 1 most rfl)) (Ev.rv (ev_c (ea := D.int) (1 : Int) rfl))) cv_nil))) (by simp -implicitDefEqProofs only [Option.bind_some, Option.bind_fun_some]) : Dv _ _ D.int _ (t__law_take row tot (most + (1 : Int)) c)) (fun _ => rfl) (fun p5 => (sk_setD (S1 := fun v10 => [.deal row tot, .val (D.int most), .val (D.int limit), .val (D.int p5.1), .val (D.int v10), .any, .any, .any, .any, .any]) 4 (dvE (dv_bin (ea := D.int) (eb := D.int) (ec := D.int) (fun a6 b7 => some (a6 + b7)) op_add (rd_rv (Ev.rv (ev_c (ea := D.int) (1 : Int) rfl))) (fun k8 => (rd_dv (dv_call (ea := D.int) (t := fun (p : (Int × Unit)) => t__law_take row tot p.1 k8.2) (fun (p : (Int × Unit)) => (l__law_take  row tot p.1 k8.2)) (cv_deal 0 rfl (cv_x (ev_c (ea := D.int) (4 : Int) rfl) cv_nil)))))) (by simp -implicitDefEqProofs only [Option.bind_some, Option.bind_fun_some]) : Dv _ _ D.int _ ((t__law_take row tot (4 : Int) p5.2).bind fun p9 => some ((1 : Int) + p9.1, p9.2))) (fun _ => rfl) (fun p12 => (sk_new' (w := (oL (e2 D.int D.int))) (S1 := [.deal row tot, .val (D.int most), .val (D.int limit), .val (D.int p5.1), .val (D.int p12.1), .own ((oL (e2 D.int D.int)) []), .any, .any, .any, .any]) 5 ((nv_lst (L := fun _ : Unit => []) (w := (oL (e2 D.int D.int))) (fun _ => []) (fun _ => rfl) (fun _ => bigK 0 rfl) av_nil) : Nv _ _ _ (some [])) rfl (sk_assoc (sk_forM (σ := (List (Int × Int)) × Int) (S := fun s14 => [.deal row tot, .val (D.int most), .val (D.int limit), .val (D.int p5.1), .val (D.int p12.1), .own ((oL (e2 D.int D.int)) s14.1), .any, .any, .any, .any]) (C := fun s14 => (some s14.2)) (S1 := fun s14 y15 => [.deal row tot, .val (D.int most), .val (D.int limit), .val (D.int p5.1), .val (D.int p12.1), .own ((oL (e2 D.int D.int)) s14.1), .val (D.int y15), .any, .any, .any]) (fun _ => ([], p12.2)) (ig_iv (e := D.int) (ivE (iv_rg (Ev.rv (ev_var (ea := D.int) 3 p5.1 rfl))) (by simp -implicitDefEqProofs only [Option.bind_some, Option.bind_fun_some]) : Iv _ _ _ (rg p5.1))) (fun _ => wk_of _ [0, 0, 0, 0, 0, 0, 0, 0, 0, 0]) (fun _ => rfl) (fun s14 y15 => (tg_name rfl)) (fun s14 y15 => (sk_last (sk_forM (σ := (List (Int × Int)) × Int) (S := fun s18 => [.deal row tot, .val (D.int most), .val (D.int limit), .val (D.int p5.1), .val (D.int p12.1), .own ((oL (e2 D.int D.int)) s18.1), .val (D.int y15), .any, .any, .any]) (C := fun s18 => (some s18.2)) (S1 := fun s18 y19 => [.deal row tot, .val (D.int most), .val (D.int limit), .val (D.int p5.1), .val (D.int p12.1), .own ((oL (e2 D.int D.int)) s18.1), .val (D.int y15), .val (D.int y19), .any, .any]) (fun _ => (s14.1, s14.2)) (ig_iv (e := D.int) (ivE (iv_rg2 (Ev.rv (ev_bin (ea := D.int) (eb := D.int) (ec := D.int) (fun a16 b17 => some (a16 + b17)) op_add (Ev.rv (ev_var (ea := D.int) 6 y15 rfl)) (Ev.rv (ev_c (ea := D.int) (1 : Int) rfl)))) (Ev.rv (ev_var (ea := D.int) 3 p5.1 rfl))) (by simp -implicitDefEqProofs only [Option.bind_some, Option.bind_fun_some]) : Iv _ _ _ (rg2 (y15 + (1 : Int)) p5.1))) (fun _ => wk_of _ [0, 0, 0, 0, 0, 0, 0, 0, 0, 0]) (fun _ => rfl) (fun s18 y19 => (tg_name rfl)) (fun s18 y19 => (sk_last (sk_ifD (tdE (td_and (td_of (dv_bin (ea := D.int) (eb := D.int) (ec := D.bl) (fun a20 b21 => some (decide (a20 < b21))) op_lt (rd_dv (dv_call (ea := D.int) (t := fun (p : (Int × Unit)) => t__law_take row tot p.1 s18.2) (fun (p : (Int × Unit)) => (l__law_take  row tot p.1 s18.2)) (cv_deal 0 rfl (cv_x (ev_c (ea := D.int) (5 : Int) rfl) cv_nil)))) (fun _ => (rd_rv (Ev.rv (ev_var (ea := D.int) 4 p12.1 rfl)))))) (fun k26 => (td_tv (tv_of (ev_bin (ea := D.int) (eb := D.int) (ec := D.bl) (fun a23 b24 => some (decide (a23 < b24))) op_lt (Ev.rv (ev_un (ea := (eL (e2 D.int D.int))) (eb := D.int) (fun a22 => some (len a22)) op_lenL (rv_own (ea := (eL (e2 D.int D.int))) 5 s18.1 rfl rfl))) (Ev.rv (ev_var (ea := D.int) 2 limit rfl))))))) (by simp -implicitDefEqProofs only [Option.bind_some, Option.bind_fun_some]) : Td _ _ _ (((t__law_take row tot (5 : Int) s18.2).bind fun p25 => some (decide (p25.1 < p12.1), p25.2)).bind fun p27 => if p27.1 = true then some (decide ((len s18.1) < limit), p27.2) else some (false, p27.2))) (fun p28 => (sk_app' (e := (e2 D.int D.int)) (S1 := fun meetings29 => [.deal row tot, .val (D.int most), .val (D.int limit), .val (D.int p5.1), .val (D.int p12.1), .own ((oL (e2 D.int D.int)) meetings29), .val (D.int y15), .val (D.int y19), .any, .any]) 5 rfl ((ev_tup (L := (fun p : Int × Int × Unit => [D.int p.1, D.int p.2.1])) (e := (e2 D.int D.int)) (fun p => (p.1, p.2.1)) (fun _ => rfl) (fun _ => bigK 2 rfl) (av_cons (ev_var (ea := D.int) 6 y15 rfl) (av_cons (ev_var (ea := D.int) 7 y19 rfl) av_nil))) : Ev _ _ _ (some (y15, y19))) (fun _ => rfl) (fun meetings29 => (sk_lp _ rfl (wk_of _ [0, 0, 0, 0, 0, 0, 0, 1, 0, 0]))))) (fun p28 => (sk_nilSeq (sk_lp _ rfl (wk_of _ [0, 0, 0, 0, 0, 0, 0, 1, 0, 0]))))))) (fun s30 => (sk_lp _ rfl (wk_of _ [0, 0, 0, 0, 0, 0, 1, 0, 0, 0])))))) (fun s32 => (sk_frz (S1 := [.deal row tot, .val (D.int most), .val (D.int limit), .val (D.int p5.1), .val (D.int p12.1), .val ((eL (e2 D.int D.int)) s32.1), .any, .any, .any, .any]) 5 rfl rfl rfl (sk_assoc (sk_forM (σ := (List (Int × Int)) × Int) (S := fun s33 => [.deal row tot, .val (D.int most), .val (D.int limit), .val (D.int p5.1), .val (D.int p12.1), .val ((eL (e2 D.int D.int)) s33.1), .any, .any, .any, .any]) (C := fun s33 => (some s33.2)) (S1 := fun s33 y34 => [.deal row tot, .val (D.int most), .val (D.int limit), .val (D.int p5.1), .val (D.int p12.1), .val ((eL (e2 D.int D.int)) s33.1), .any, .any, .val (D.int y34), .any]) (fun z => (s32.1, z.2)) (ig_id (e := D.int) (idE (id_rg (rd_dv (dv_call (ea := D.int) (t := fun (p : (Int × Unit)) => t__law_take row tot p.1 s32.2) (fun (p : (Int × Unit)) => (l__law_take  row tot p.1 s32.2)) (cv_deal 0 rfl (cv_x (ev_c (ea := D.int) (4 : Int) rfl) cv_nil))))) (by simp -implicitDefEqProofs only [Option.bind_some, Option.bind_fun_some]) : Id _ _ _ _ ((t__law_take row tot (4 : Int) s32.2).bind fun p47 => (rg p47.1).bind fun z48 => some (z48, p47.2)))) (fun _ => wk_of _ [0, 0, 0, 0, 0, 0, 0, 0, 0, 0]) (fun _ => rfl) (fun s33 y34 => (tg_name rfl)) (fun s33 y34 => (sk_last (sk_assoc (sk_if' ((tv_of (ev_bin (ea := D.int) (eb := D.int) (ec := D.bl) (fun a36 b37 => some (decide (b37 < a36))) op_gt (Ev.rv (ev_un (ea := (eL (e2 D.int D.int))) (eb := D.int) (fun a35 => some (len a35)) op_lenL (Ev.rv (ev_var (ea := (eL (e2 D.int D.int))) 5 s33.1 rfl)))) (Ev.rv (ev_c (ea := D.int) (1 : Int) rfl)))) : Tv _ _ (some (decide ((1 : Int) < (len s33.1))))) (sk_assoc (sk_setD (S1 := fun v39 => [.deal row tot, .val (D.int most), .val (D.int limit), .val (D.int p5.1), .val (D.int p12.1), .val ((eL (e2 D.int D.int)) s33.1), .any, .any, .val (D.int y34), .val (D.int v39)]) 9 (dvE (dv_call (ea := D.int) (t := fun (p : (Int × Unit)) => t__law_take row tot p.1 s33.2) (fun (p : (Int × Unit)) => (l__law_take  row tot p.1 s33.2)) (cv_deal 0 rfl (cv_x (ev_un (ea := (eL (e2 D.int D.int))) (eb := D.int) (fun a38 => some (len a38)) op_lenL (Ev.rv (ev_var (ea := (eL (e2 D.int D.int))) 5 s33.1 rfl))) cv_nil))) (by simp -implicitDefEqProofs only [Option.bind_some, Option.bind_fun_some]) : Dv _ _ D.int _ (t__law_take row tot (len s33.1) s33.2)) (fun _ => rfl) (fun p41 => (sk_assoc (sk_set (S1 := fun v44 => [.deal row tot, .val (D.int most), .val (D.int limit), .val (D.int p5.1), .val (D.int p12.1), .val ((eL (e2 D.int D.int)) v44), .any, .any, .val (D.int y34), .val (D.int p41.1)]) 5 (evE (ev_bin (ea := (eL (e2 D.int D.int))) (eb := (eL (e2 D.int D.int))) (ec := (eL (e2 D.int D.int))) (fun a42 b43 => catG a42 b43) op_catL (Ev.rv (ev_slL (e := (e2 D.int D.int)) (Ev.rv (ev_var (ea := (eL (e2 D.int D.int))) 5 s33.1 rfl)) (ov_some (Ev.rv (ev_var (ea := D.int) 9 p41.1 rfl))) ov_none)) (Ev.rv (ev_slL (e := (e2 D.int D.int)) (Ev.rv (ev_var (ea := (eL (e2 D.int D.int))) 5 s33.1 rfl)) ov_none (ov_some (Ev.rv (ev_var (ea := D.int) 9 p41.1 rfl)))))) (by simp -implicitDefEqProofs only [Option.bind_some, Option.bind_fun_some]) : Ev _ _ (eL (e2 D.int D.int)) (catG (cutD s33.1 (some p41.1) none) (cutD s33.1 none (some p41.1)))) (fun _ => rfl) (fun v44 => (sk_frzV 5 rfl (sk_frzV 5 rfl (sk_lp _ rfl (wk_of _ [0, 0, 0, 0, 0, 0, 0, 0, 1, 1])))))))))) (sk_nilSeq (sk_frzV 5 rfl (sk_lp _ rfl (wk_of _ [0, 0, 0, 0, 0, 0, 0, 0, 1, 0])))))))) (fun s45 => (sk_frzV 5 rfl (sk_last (sk_ret' _ ((ev_tup (L := (fun p : Int × (List (Int × Int)) × Unit => [D.int p.1, (eT (e2 D.int D.int)) p.2.1])) (e := (e2 D.int (eT (e2 D.int D.int)))) (fun p => (p.1, p.2.1)) (fun _ => rfl) (fun _ => bigK 2 rfl) (av_cons (ev_var (ea := D.int) 3 p5.1 rfl) (av_cons (ev_un (ea := (eL (e2 D.int D.int))) (eb := (eT (e2 D.int D.int))) (fun a46 => some a46) op_tupL (Ev.rv (ev_var (ea := (eL (e2 D.int D.int))) 5 s45.1 rfl))) av_nil))) : Ev _ _ _ (some (p5.1, s45.1))) rfl)))))))))))))))
theorem l__law_sided (row : List Int) (tot : Int) (most : Int) (limit : Int) (c : Int) : Fd (m__law_sided) [.deal row tot, .x (D.int most), .x (D.int limit)] (e2 D.int (eT (e2 D.int D.int))) c (t__law_sided row tot most limit c) := by
  unfold m__law_sided t__law_sided b__law_sided
  exact fd_body (s := [.deal row tot, .val (D.int most), .val (D.int limit), .any, .any, .any, .any]) rfl rfl (sk_setD (S1 := fun v5 => [.deal row tot, .val (D.int most), .val (D.int limit), .val (D.int v5), .any, .any, .any]) 3 (dvE (dv_bin (ea := D.int) (eb := D.int) (ec := D.int) (fun a1 b2 => some (a1 + b2)) op_add (rd_rv (Ev.rv (ev_c (ea := D.int) (1 : Int) rfl))) (fun k3 => (rd_dv (dv_call (ea := D.int) (t := fun (p : (Int × Unit)) => t__law_take row tot p.1 k3.2) (fun (p : (Int × Unit)) => (l__law_take  row tot p.1 k3.2)) (cv_deal 0 rfl (cv_x (ev_var (ea := D.int) 1 most rfl) cv_nil)))))) (by simp -implicitDefEqProofs only [Option.bind_some, Option.bind_fun_some]) : Dv _ _ D.int _ ((t__law_take row tot most c).bind fun p4 => some ((1 : Int) + p4.1, p4.2))) (fun _ => rfl) (fun p7 => (sk_setD (S1 := fun v12 => [.deal row tot, .val (D.int most), .val (D.int limit), .val (D.int p7.1), .val (D.int v12), .any, .any]) 4 (dvE (dv_bin (ea := D.int) (eb := D.int) (ec := D.int) (fun a8 b9 => some (a8 + b9)) op_add (rd_rv (Ev.rv (ev_c (ea := D.int) (1 : Int) rfl))) (fun k10 => (rd_dv (dv_call (ea := D.int) (t := fun (p : (Int × Unit)) => t__law_take row tot p.1 k10.2) (fun (p : (Int × Unit)) => (l__law_take  row tot p.1 k10.2)) (cv_deal 0 rfl (cv_x (ev_var (ea := D.int) 1 most rfl) cv_nil)))))) (by simp -implicitDefEqProofs only [Option.bind_some, Option.bind_fun_some]) : Dv _ _ D.int _ ((t__law_take row tot most p7.2).bind fun p11 => some ((1 : Int) + p11.1, p11.2))) (fun _ => rfl) (fun p14 => (sk_new' (w := (oL (e2 D.int D.int))) (S1 := [.deal row tot, .val (D.int most), .val (D.int limit), .val (D.int p7.1), .val (D.int p14.1), .own ((oL (e2 D.int D.int)) []), .any]) 5 ((nv_lst (L := fun _ : Unit => []) (w := (oL (e2 D.int D.int))) (fun _ => []) (fun _ => rfl) (fun _ => bigK 0 rfl) av_nil) : Nv _ _ _ (some [])) rfl (sk_assoc (sk_forM (σ := (List (Int × Int)) × Int) (S := fun s18 => [.deal row tot, .val (D.int most), .val (D.int limit), .val (D.int p7.1), .val (D.int p14.1), .own ((oL (e2 D.int D.int)) s18.1), .any]) (C := fun s18 => (some s18.2)) (S1 := fun s18 y19 => [.deal row tot, .val (D.int most), .val (D.int limit), .val (D.int p7.1), .val (D.int p14.1), .own ((oL (e2 D.int D.int)) s18.1), .val (D.int y19)]) (fun z => ([], z.2)) (ig_id (e := D.int) (idE (id_rg (rd_dv (dv_call (ea := D.int) (t := fun (p : (Int × Unit)) => t__law_take row tot p.1 p14.2) (fun (p : (Int × Unit)) => (l__law_take  row tot p.1 p14.2)) (cv_deal 0 rfl (cv_x (ev_bin (ea := D.int) (eb := D.int) (ec := D.int) (fun a16 b17 => some (a16 + b17)) op_add (Ev.rv (ev_var (ea := D.int) 2 limit rfl)) (Ev.rv (ev_c (ea := D.int) (1 : Int) rfl))) cv_nil))))) (by simp -implicitDefEqProofs only [Option.bind_some, Option.bind_fun_some]) : Id _ _ _ _ ((t__law_take row tot (limit + (1 : Int)) p14.2).bind fun p41 => (rg p41.1).bind fun z42 => some (z42, p41.2)))) (fun _ => wk_of _ [0, 0, 0, 0, 0, 0, 0]) (fun _ => rfl) (fun s18 y19 => (tg_name rfl)) (fun s18 y19 => (sk_last (sk_appD (e := (e2 D.int D.int)) (S1 := fun meetings20 => [.deal row tot, .val (D.int most), .val (D.int limit), .val (D.int p7.1), .val (D.int p14.1), .own ((oL (e2 D.int D.int)) meetings20), .val (D.int y19)]) 5 rfl (dvE (dv_tup (L := (fun p : Int × Int × Unit => [D.int p.1, D.int p.2.1])) (e := (e2 D.int D.int)) (fun p => (p.1, p.2.1)) (fun _ => rfl) (fun _ => bigK 2 rfl) (ad_cons (dv_call (ea := D.int) (t := fun (p : (Int × Unit)) => t__law_take row tot p.1 s18.2) (fun (p : (Int × Unit)) => (l__law_take  row tot p.1 s18.2)) (cv_deal 0 rfl (cv_x (ev_var (ea := D.int) 3 p7.1 rfl) cv_nil))) (fun k23 => (ad_cons (dv_bin (ea := D.int) (eb := D.int) (ec := D.int) (fun a21 b22 => some (a21 + b22)) op_add (rd_rv (Ev.rv (ev_var (ea := D.int) 3 p7.1 rfl))) (fun k24 => (rd_dv (dv_call (ea := D.int) (t := fun (p : (Int × Unit)) => t__law_take row tot p.1 k24.2) (fun (p : (Int × Unit)) => (l__law_take  row tot p.1 k24.2)) (cv_deal 0 rfl (cv_x (ev_var (ea := D.int) 4 p14.1 rfl) cv_nil)))))) (fun k26 => (ad_av av_nil)))))) (by simp -implicitDefEqProofs only [Option.bind_some, Option.bind_fun_some]) : Dv _ _ _ _ (((t__law_take row tot p7.1 s18.2).bind fun p28 => (((t__law_take row tot p14.1 p28.2).bind fun p30 => some (p7.1 + p30.1, p30.2)).bind fun p32 => some ((p32.1, ()), p32.2)).bind fun q33 => some ((p28.1, q33.1), q33.2)).bind fun q34 => some ((q34.1.1, q34.1.2.1), q34.2))) (fun _ => rfl) (fun p36 meetings20 => (sk_lp _ rfl (wk_of _ [0, 0, 0, 0, 0, 0, 1])))))) (fun s37 => (sk_frz (S1 := [.deal row tot, .val (D.int most), .val (D.int limit), .val (D.int p7.1), .val (D.int p14.1), .val ((eL (e2 D.int D.int)) s37.1), .any]) 5 rfl rfl rfl (sk_last (sk_ret' _ ((ev_tup (L := (fun p : Int × (List (Int × Int)) × Unit => [D.int p.1, (eT (e2 D.int D.int)) p.2.1])) (e := (e2 D.int (eT (e2 D.int D.int)))) (fun p => (p.1, p.2.1)) (fun _ => rfl) (fun _ => bigK 2 rfl) (av_cons (ev_bin (ea := D.int) (eb := D.int) (ec := D.int) (fun a38 b39 => some (a38 + b39)) op_add (Ev.rv (ev_var (ea := D.int) 3 p7.1 rfl)) (Ev.rv (ev_var (ea := D.int) 4 p14.1 rfl))) (av_cons (ev_un (ea := (eL (e2 D.int D.int))) (eb := (eT (e2 D.int D.int))) (fun a40 => some a40) op_tupL (Ev.rv (ev_var (ea := (eL (e2 D.int D.int))) 5 s37.1 rfl))) av_nil))) : Ev _ _ _ (some (p7.1 + p14.1, s37.1))) rfl)))))))))))
theorem l__law_any (row : List Int) (tot : Int) (limit : Int) (c : Int) : Fd (m__law_any) [.deal row tot, .x (D.int limit)] (e2 D.int (eT (e2 D.int D.int))) c (t__law_any row tot limit c) := by
  unfold m__law_any t__law_any b__law_any
  exact fd_body (s := [.deal row tot, .val (D.int limit), .any, .any, .any, .any, .any]) rfl rfl (sk_setD (S1 := fun v1 => [.deal row tot, .val (D.int limit), .val (D.int v1), .any, .any, .any, .any]) 2 (dvE (dv_call (ea := D.int) (t := fun (p : (Int × Unit)) => t__law_take row tot p.1 c) (fun (p : (Int × Unit)) => (l__law_take  row tot p.1 c)) (cv_deal 0 rfl (cv_x (ev_c (ea := D.int) (3 : Int) rfl) cv_nil))) (by simp -implicitDefEqProofs only [Option.bind_some, Option.bind_fun_some]) : Dv _ _ D.int _ (t__law_take row tot (3 : Int) c)) (fun _ => rfl) (fun p3 => (sk_if' ((tv_of (ev_bin (ea := D.int) (eb := D.int) (ec := D.bl) (fun a4 b5 => some (decide (a4 = b5))) (op_eq (PyE.eq pyE_int)) (Ev.rv (ev_var (ea := D.int) 2 p3.1 rfl)) (Ev.rv (ev_c (ea := D.int) (0 : Int) rfl)))) : Tv _ _ (some (decide (p3.1 = (0 : Int))))) (sk_retD0 (dvE (dv_call (ea := (e2 D.int (eT (e2 D.int D.int)))) (t := fun (p : (Int × Int × Unit)) => t__law_plain row tot p.1 p.2.1 p3.2) (fun (p : (Int × Int × Unit)) => (l__law_plain  row tot p.1 p.2.1 p3.2)) (cv_deal 0 rfl (cv_x (ev_c (ea := D.int) (6 : Int) rfl) (cv_x (ev_var (ea := D.int) 1 limit rfl) cv_nil)))) (by simp -implicitDefEqProofs only [Option.bind_some, Option.bind_fun_some]) : Dv _ _ _ _ (t__law_plain row tot (6 : Int) limit p3.2)) (fun _ _ => rfl)) (sk_nilSeq (sk_if' ((tv_of (ev_bin (ea := D.int) (eb := D.int) (ec := D.bl) (fun a6 b7 => some (decide (a6 = b7))) (op_eq (PyE.eq pyE_int)) (Ev.rv (ev_var (ea := D.int) 2 p3.1 rfl)) (Ev.rv (ev_c (ea := D.int) (1 : Int) rfl)))) : Tv _ _ (some (decide (p3.1 = (1 : Int))))) (sk_retD0 (dvE (dv_call (ea := (e2 D.int (eT (e2 D.int D.int)))) (t := fun (p : (Int × Int × Unit)) => t__law_sided row tot p.1 p.2.1 p3.2) (fun (p : (Int × Int × Unit)) => (l__law_sided  row tot p.1 p.2.1 p3.2)) (cv_deal 0 rfl (cv_x (ev_c (ea := D.int) (4 : Int) rfl) (cv_x (ev_var (ea := D.int) 1 limit rfl) cv_nil)))) (by simp -implicitDefEqProofs only [Option.bind_some, Option.bind_fun_some]) : Dv _ _ _ _ (t__law_sided row tot (4 : Int) limit p3.2)) (fun _ _ => rfl)) (sk_nilSeq (sk_setD (S1 := fun v12 => [.deal row tot, .val (D.int limit), .val (D.int p3.1), .val (D.int v12), .any, .any, .any]) 3 (dvE (dv_bin (ea := D.int) (eb := D.int) (ec := D.int) (fun a8 b9 => some (a8 + b9)) op_add (rd_rv (Ev.rv (ev_c (ea := D.int) (2 : Int) rfl))) (fun k10 => (rd_dv (dv_call (ea := D.int) (t := fun (p : (Int × Unit)) => t__law_take row tot p.1 k10.2) (fun (p : (Int × Unit)) => (l__law_take  row tot p.1 k10.2)) (cv_deal 0 rfl (cv_x (ev_c (ea := D.int) (4 : Int) rfl) cv_nil)))))) (by simp -implicitDefEqProofs only [Option.bind_some, Option.bind_fun_some]) : Dv _ _ D.int _ ((t__law_take row tot (4 : Int) p3.2).bind fun p11 => some ((2 : Int) + p11.1, p11.2))) (fun _ => rfl) (fun p14 => (sk_new' (w := (oL (e2 D.int D.int))) (S1 := [.deal row tot, .val (D.int limit), .val (D.int p3.1), .val (D.int p14.1), .own ((oL (e2 D.int D.int)) []), .any, .any]) 4 ((nv_lst (L := fun _ : Unit => []) (w := (oL (e2 D.int D.int))) (fun _ => []) (fun _ => rfl) (fun _ => bigK 0 rfl) av_nil) : Nv _ _ _ (some [])) rfl (sk_assoc (sk_forM (σ := (List (Int × Int)) × Int) (S := fun s18 => [.deal row tot, .val (D.int limit), .val (D.int p3.1), .val (D.int p14.1), .own ((oL (e2 D.int D.int)) s18.1), .any, .any]) (C := fun s18 => (some s18.2)) (S1 := fun s18 y19 => [.deal row tot, .val (D.int limit), .val (D.int p3.1), .val (D.int p14.1), .own ((oL (e2 D.int D.int)) s18.1), .val (D.int y19), .any]) (fun z => ([], z.2)) (ig_id (e := D.int) (idE (id_rg (rd_dv (dv_call (ea := D.int) (t := fun (p : (Int × Unit)) => t__law_take row tot p.1 p14.2) (fun (p : (Int × Unit)) => (l__law_take  row tot p.1 p14.2)) (cv_deal 0 rfl (cv_x (ev_bin (ea := D.int) (eb := D.int) (ec := D.int) (fun a16 b17 => some (a16 + b17)) op_add (Ev.rv (ev_var (ea := D.int) 1 limit rfl)) (Ev.rv (ev_c (ea := D.int) (1 : Int) rfl))) cv_nil))))) (by simp -implicitDefEqProofs only [Option.bind_some, Option.bind_fun_some]) : Id _ _ _ _ ((t__law_take row tot (limit + (1 : Int)) p14.2).bind fun p49 => (rg p49.1).bind fun z50 => some (z50, p49.2)))) (fun _ => wk_of _ [0, 0, 0, 0, 0, 0, 0]) (fun _ => rfl) (fun s18 y19 => (tg_name rfl)) (fun s18 y19 => (sk_setD (S1 := fun v22 => [.deal row tot, .val (D.int limit), .val (D.int p3.1), .val (D.int p14.1), .own ((oL (e2 D.int D.int)) s18.1), .val (D.int y19), .val (D.int v22)]) 6 (dvE (dv_call (ea := D.int) (t := fun (p : (Int × Unit)) => t__law_take row tot p.1 s18.2) (fun (p : (Int × Unit)) => (l__law_take  row tot p.1 s18.2)) (cv_deal 0 rfl (cv_x (ev_bin (ea := D.int) (eb := D.int) (ec := D.int) (fun a20 b21 => some (a20 - b21)) op_sub (Ev.rv (ev_var (ea := D.int) 3 p14.1 rfl)) (Ev.rv (ev_c (ea := D.int) (1 : Int) rfl))) cv_nil))) (by simp -implicitDefEqProofs only [Option.bind_some, Option.bind_fun_some]) : Dv _ _ D.int _ (t__law_take row tot (p14.1 - (1 : Int)) s18.2)) (fun _ => rfl) (fun p24 => (sk_last (sk_appD (e := (e2 D.int D.int)) (S1 := fun meetings25 => [.deal row tot, .val (D.int limit), .val (D.int p3.1), .val (D.int p14.1), .own ((oL (e2 D.int D.int)) meetings25), .val (D.int y19), .val (D.int p24.1)]) 4 rfl (dvE (dv_tup (L := (fun p : Int × Int × Unit => [D.int p.1, D.int p.2.1])) (e := (e2 D.int D.int)) (fun p => (p.1, p.2.1)) (fun _ => rfl) (fun _ => bigK 2 rfl) (ad_cons (dv_ev (ev_var (ea := D.int) 6 p24.1 rfl)) (fun k34 => (ad_cons (dv_bin (ea := D.int) (eb := D.int) (ec := D.int) (fun a32 b33 => some (a32 + b33)) op_add (rd_rv (Ev.rv (ev_bin (ea := D.int) (eb := D.int) (ec := D.int) (fun a26 b27 => some (a26 + b27)) op_add (Ev.rv (ev_var (ea := D.int) 6 p24.1 rfl)) (Ev.rv (ev_c (ea := D.int) (1 : Int) rfl))))) (fun k35 => (rd_dv (dv_call (ea := D.int) (t := fun (p : (Int × Unit)) => t__law_take row tot p.1 k35.2) (fun (p : (Int × Unit)) => (l__law_take  row tot p.1 k35.2)) (cv_deal 0 rfl (cv_x (ev_bin (ea := D.int) (eb := D.int) (ec := D.int) (fun a30 b31 => some (a30 - b31)) op_sub (Ev.rv (ev_bin (ea := D.int) (eb := D.int) (ec := D.int) (fun a28 b29 => some (a28 - b29)) op_sub (Ev.rv (ev_var (ea := D.int) 3 p14.1 rfl)) (Ev.rv (ev_c (ea := D.int) (1 : Int) rfl)))) (Ev.rv (ev_var (ea := D.int) 6 p24.1 rfl))) cv_nil)))))) (fun k37 => (ad_av av_nil)))))) (by simp -implicitDefEqProofs only [Option.bind_some, Option.bind_fun_some]) : Dv _ _ _ _ (((((t__law_take row tot ((p14.1 - (1 : Int)) - p24.1) p24.2).bind fun p40 => some ((p24.1 + (1 : Int)) + p40.1, p40.2)).bind fun p42 => some ((p42.1, ()), p42.2)).bind fun q43 => some ((p24.1, q43.1), q43.2)).bind fun q44 => some ((q44.1.1, q44.1.2.1), q44.2))) (fun _ => rfl) (fun p46 meetings25 => (sk_lp _ rfl (wk_of _ [0, 0, 0, 0, 0, 1, 1])))))))) (fun s47 => (sk_frz (S1 := [.deal row tot, .val (D.int limit), .val (D.int p3.1), .val (D.int p14.1), .val ((eL (e2 D.int D.int)) s47.1), .any, .any]) 4 rfl rfl rfl (sk_last (sk_ret' _ ((ev_tup (L := (fun p : Int × (List (Int × Int)) × Unit => [D.int p.1, (eT (e2 D.int D.int)) p.2.1])) (e := (e2 D.int (eT (e2 D.int D.int)))) (fun p => (p.1, p.2.1)) (fun _ => rfl) (fun _ => bigK 2 rfl) (av_cons (ev_var (ea := D.int) 3 p14.1 rfl) (av_cons (ev_un (ea := (eL (e2 D.int D.int))) (eb := (eT (e2 D.int D.int))) (fun a48 => some a48) op_tupL (Ev.rv (ev_var (ea := (eL (e2 D.int D.int))) 4 s47.1 rfl))) av_nil))) : Ev _ _ _ (some (p14.1, s47.1))) rfl)))))))))))))))
theorem l__law_few (row : List Int) (tot : Int)  (c : Int) : Fd (m__law_few) [.deal row tot] (e2 D.int (eT (e2 D.int D.int))) c (t__law_few row tot  c) := by
  unfold m__law_few t__law_few b__law_few
  exact fd_body (s := [.deal row tot, .any, .any, .any, .any]) rfl rfl (sk_setD (S1 := fun v5 => [.deal row tot, .val (D.int v5), .any, .any, .any]) 1 (dvE (dv_bin (ea := D.int) (eb := D.int) (ec := D.int) (fun a1 b2 => some (a1 - b2)) op_sub (rd_rv (Ev.rv (ev_c (ea := D.int) (4 : Int) rfl))) (fun k3 => (rd_dv (dv_call (ea := D.int) (t := fun (p : (Int × Unit)) => t__law_take row tot p.1 k3.2) (fun (p : (Int × Unit)) => (l__law_take  row tot p.1 k3.2)) (cv_deal 0 rfl (cv_x (ev_c (ea := D.int) (5 : Int) rfl) cv_nil)))))) (by simp -implicitDefEqProofs only [Option.bind_some, Option.bind_fun_some]) : Dv _ _ D.int _ ((t__law_take row tot (5 : Int) c).bind fun p4 => some ((4 : Int) - p4.1, p4.2))) (fun _ => rfl) (fun p7 => (sk_new' (w := (oL (e2 D.int D.int))) (S1 := [.deal row tot, .val (D.int p7.1), .own ((oL (e2 D.int D.int)) []), .any, .any]) 2 ((nv_lst (L := fun _ : Unit => []) (w := (oL (e2 D.int D.int))) (fun _ => []) (fun _ => rfl) (fun _ => bigK 0 rfl) av_nil) : Nv _ _ _ (some [])) rfl (sk_assoc (sk_forM (σ := (List (Int × Int)) × Int) (S := fun s9 => [.deal row tot, .val (D.int p7.1), .own ((oL (e2 D.int D.int)) s9.1), .any, .any]) (C := fun s9 => (some s9.2)) (S1 := fun s9 y10 => [.deal row tot, .val (D.int p7.1), .own ((oL (e2 D.int D.int)) s9.1), .val (D.int y10), .any]) (fun z => ([], z.2)) (ig_id (e := D.int) (idE (id_rg (rd_dv (dv_call (ea := D.int) (t := fun (p : (Int × Unit)) => t__law_take row tot p.1 p7.2) (fun (p : (Int × Unit)) => (l__law_take  row tot p.1 p7.2)) (cv_deal 0 rfl (cv_x (ev_c (ea := D.int) (4 : Int) rfl) cv_nil))))) (by simp -implicitDefEqProofs only [Option.bind_some, Option.bind_fun_some]) : Id _ _ _ _ ((t__law_take row tot (4 : Int) p7.2).bind fun p42 => (rg p42.1).bind fun z43 => some (z43, p42.2)))) (fun _ => wk_of _ [0, 0, 0, 0, 0]) (fun _ => rfl) (fun s9 y10 => (tg_name rfl)) (fun s9 y10 => (sk_last (sk_if' ((tv_of (ev_bin (ea := D.int) (eb := D.int) (ec := D.bl) (fun a11 b12 => some (decide (b12 < a11))) op_gt (Ev.rv (ev_var (ea := D.int) 1 p7.1 rfl)) (Ev.rv (ev_c (ea := D.int) (1 : Int) rfl)))) : Tv _ _ (some (decide ((1 : Int) < p7.1)))) (sk_assoc (sk_setD (S1 := fun v15 => [.deal row tot, .val (D.int p7.1), .own ((oL (e2 D.int D.int)) s9.1), .val (D.int y10), .val (D.int v15)]) 4 (dvE (dv_call (ea := D.int) (t := fun (p : (Int × Unit)) => t__law_take row tot p.1 s9.2) (fun (p : (Int × Unit)) => (l__law_take  row tot p.1 s9.2)) (cv_deal 0 rfl (cv_x (ev_bin (ea := D.int) (eb := D.int) (ec := D.int) (fun a13 b14 => some (a13 - b14)) op_sub (Ev.rv (ev_var (ea := D.int) 1 p7.1 rfl)) (Ev.rv (ev_c (ea := D.int) (1 : Int) rfl))) cv_nil))) (by simp -implicitDefEqProofs only [Option.bind_some, Option.bind_fun_some]) : Dv _ _ D.int _ (t__law_take row tot (p7.1 - (1 : Int)) s9.2)) (fun _ => rfl) (fun p17 => (sk_appD (e := (e2 D.int D.int)) (S1 := fun meetings18 => [.deal row tot, .val (D.int p7.1), .own ((oL (e2 D.int D.int)) meetings18), .val (D.int y10), .val (D.int p17.1)]) 2 rfl (dvE (dv_tup (L := (fun p : Int × Int × Unit => [D.int p.1, D.int p.2.1])) (e := (e2 D.int D.int)) (fun p => (p.1, p.2.1)) (fun _ => rfl) (fun _ => bigK 2 rfl) (ad_cons (dv_ev (ev_var (ea := D.int) 4 p17.1 rfl)) (fun k27 => (ad_cons (dv_bin (ea := D.int) (eb := D.int) (ec := D.int) (fun a25 b26 => some (a25 + b26)) op_add (rd_rv (Ev.rv (ev_bin (ea := D.int) (eb := D.int) (ec := D.int) (fun a19 b20 => some (a19 + b20)) op_add (Ev.rv (ev_var (ea := D.int) 4 p17.1 rfl)) (Ev.rv (ev_c (ea := D.int) (1 : Int) rfl))))) (fun k28 => (rd_dv (dv_call (ea := D.int) (t := fun (p : (Int × Unit)) => t__law_take row tot p.1 k28.2) (fun (p : (Int × Unit)) => (l__law_take  row tot p.1 k28.2)) (cv_deal 0 rfl (cv_x (ev_bin (ea := D.int) (eb := D.int) (ec := D.int) (fun a23 b24 => some (a23 - b24)) op_sub (Ev.rv (ev_bin (ea := D.int) (eb := D.int) (ec := D.int) (fun a21 b22 => some (a21 - b22)) op_sub (Ev.rv (ev_var (ea := D.int) 1 p7.1 rfl)) (Ev.rv (ev_c (ea := D.int) (1 : Int) rfl)))) (Ev.rv (ev_var (ea := D.int) 4 p17.1 rfl))) cv_nil)))))) (fun k30 => (ad_av av_nil)))))) (by simp -implicitDefEqProofs only [Option.bind_some, Option.bind_fun_some]) : Dv _ _ _ _ (((((t__law_take row tot ((p7.1 - (1 : Int)) - p17.1) p17.2).bind fun p33 => some ((p17.1 + (1 : Int)) + p33.1, p33.2)).bind fun p35 => some ((p35.1, ()), p35.2)).bind fun q36 => some ((p17.1, q36.1), q36.2)).bind fun q37 => some ((q37.1.1, q37.1.2.1), q37.2))) (fun _ => rfl) (fun p39 meetings18 => (sk_lp _ rfl (wk_of _ [0, 0, 0, 1, 1]))))))) (sk_nilSeq (sk_lp _ rfl (wk_of _ [0, 0, 0, 1, 0])))))) (fun s40 => (sk_frz (S1 := [.deal row tot, .val (D.int p7.1), .val ((eL (e2 D.int D.int)) s40.1), .any, .any]) 2 rfl rfl rfl (sk_last (sk_ret' _ ((ev_tup (L := (fun p : Int × (List (Int × Int)) × Unit => [D.int p.1, (eT (e2 D.int D.int)) p.2.1])) (e := (e2 D.int (eT (e2 D.int D.int)))) (fun p => (p.1, p.2.1)) (fun _ => rfl) (fun _ => bigK 2 rfl) (av_cons (ev_var (ea := D.int) 1 p7.1 rfl) (av_cons (ev_un (ea := (eL (e2 D.int D.int))) (eb := (eT (e2 D.int D.int))) (fun a41 => some a41) op_tupL (Ev.rv (ev_var (ea := (eL (e2 D.int D.int))) 2 s40.1 rfl))) av_nil))) : Ev _ _ _ (some (p7.1, s40.1))) rfl)))))))))
theorem l__law_web (row : List Int) (tot : Int) (limit : Int) (c : Int) : Fd (m__law_web) [.deal row tot, .x (D.int limit)] (e2 D.int (eT (e2 D.int D.int))) c (t__law_web row tot limit c) := by
  unfold m__law_web t__law_web b__law_web
  exact fd_body (s := [.deal row tot, .val (D.int limit)]) rfl rfl (sk_last (sk_retD0 (dvE (dv_if (td_of (dv_bin (ea := D.int) (eb := D.int) (ec := D.bl) (fun a1 b2 => some (decide (a1 = b2))) (op_eq (PyE.eq pyE_int)) (rd_dv (dv_call (ea := D.int) (t := fun (p : (Int × Unit)) => t__law_take row tot p.1 c) (fun (p : (Int × Unit)) => (l__law_take  row tot p.1 c)) (cv_deal 0 rfl (cv_x (ev_c (ea := D.int) (4 : Int) rfl) cv_nil)))) (fun _ => (rd_rv (Ev.rv (ev_c (ea := D.int) (0 : Int) rfl)))))) (fun k4 => (dv_call (ea := (e2 D.int (eT (e2 D.int D.int)))) (t := fun (p : (Unit)) => t__law_few row tot  k4.2) (fun (p : (Unit)) => (l__law_few  row tot  k4.2)) (cv_deal 0 rfl cv_nil))) (fun k4 => (dv_call (ea := (e2 D.int (eT (e2 D.int D.int)))) (t := fun (p : (Int × Unit)) => t__law_any row tot p.1 k4.2) (fun (p : (Int × Unit)) => (l__law_any  row tot p.1 k4.2)) (cv_deal 0 rfl (cv_x (ev_var (ea := D.int) 1 limit rfl) cv_nil))))) (by simp -implicitDefEqProofs only [Option.bind_some, Option.bind_fun_some]) : Dv _ _ _ _ (((t__law_take row tot (4 : Int) c).bind fun p3 => some (decide (p3.1 = (0 : Int)), p3.2)).bind fun p5 => if p5.1 = true then t__law_few row tot  p5.2 else t__law_any row tot limit p5.2)) (fun _ _ => rfl)))
theorem l__law_clash (web : (Int × (List (Int × Int)))) (i : Int) (j : Int) : Fp (m__law_clash) [.x ((e2 D.int (eT (e2 D.int D.int))) web), .x (D.int i), .x (D.int j)] D.bl (t__law_clash web i j) := by
  unfold m__law_clash t__law_clash b__law_clash
  exact fp_body (s := [.val ((e2 D.int (eT (e2 D.int D.int))) web), .val (D.int i), .val (D.int j)]) rfl rfl (sk_last (sk_ret0 (evE (ev_or (ev_bin (ea := D.int) (eb := (e2 D.int D.int)) (ec := D.bl) (fun a6 b7 => some (inP a6 b7)) (op_inP pyE_int) (Ev.rv (ev_ixF (ea := (e2 D.int D.int)) (eb := D.int) (0 : Int) (fun x => x.1) (fun _ => rfl) (Ev.rv (ev_ix (ea := (eT (e2 D.int D.int))) (eb := D.int) (ec := (e2 D.int D.int)) (fun a1 b2 => atI a1 b2) op_ixT (Ev.rv (ev_ixF (ea := (e2 D.int (eT (e2 D.int D.int)))) (eb := (eT (e2 D.int D.int))) (1 : Int) (fun x => x.2) (fun _ => rfl) (Ev.rv (ev_var (ea := (e2 D.int (eT (e2 D.int D.int)))) 0 web rfl)) (Ev.rv (ev_c (ea := D.int) (1 : Int) rfl)))) (Ev.rv (ev_var (ea := D.int) 1 i rfl)))) (Ev.rv (ev_c (ea := D.int) (0 : Int) rfl)))) (Ev.rv (ev_ix (ea := (eT (e2 D.int D.int))) (eb := D.int) (ec := (e2 D.int D.int)) (fun a4 b5 => atI a4 b5) op_ixT (Ev.rv (ev_ixF (ea := (e2 D.int (eT (e2 D.int D.int)))) (eb := (eT (e2 D.int D.int))) (1 : Int) (fun x => x.2) (fun _ => rfl) (Ev.rv (ev_var (ea := (e2 D.int (eT (e2 D.int D.int)))) 0 web rfl)) (Ev.rv (ev_c (ea := D.int) (1 : Int) rfl)))) (Ev.rv (ev_var (ea := D.int) 2 j rfl))))) (ev_bin (ea := D.int) (eb := (e2 D.int D.int)) (ec := D.bl) (fun a15 b16 => some (inP a15 b16)) (op_inP pyE_int) (Ev.rv (ev_ixF (ea := (e2 D.int D.int)) (eb := D.int) (1 : Int) (fun x => x.2) (fun _ => rfl) (Ev.rv (ev_ix (ea := (eT (e2 D.int D.int))) (eb := D.int) (ec := (e2 D.int D.int)) (fun a10 b11 => atI a10 b11) op_ixT (Ev.rv (ev_ixF (ea := (e2 D.int (eT (e2 D.int D.int)))) (eb := (eT (e2 D.int D.int))) (1 : Int) (fun x => x.2) (fun _ => rfl) (Ev.rv (ev_var (ea := (e2 D.int (eT (e2 D.int D.int)))) 0 web rfl)) (Ev.rv (ev_c (ea := D.int) (1 : Int) rfl)))) (Ev.rv (ev_var (ea := D.int) 1 i rfl)))) (Ev.rv (ev_c (ea := D.int) (1 : Int) rfl)))) (Ev.rv (ev_ix (ea := (eT (e2 D.int D.int))) (eb := D.int) (ec := (e2 D.int D.int)) (fun a13 b14 => atI a13 b14) op_ixT (Ev.rv (ev_ixF (ea := (e2 D.int (eT (e2 D.int D.int)))) (eb := (eT (e2 D.int D.int))) (1 : Int) (fun x => x.2) (fun _ => rfl) (Ev.rv (ev_var (ea := (e2 D.int (eT (e2 D.int D.int)))) 0 web rfl)) (Ev.rv (ev_c (ea := D.int) (1 : Int) rfl)))) (Ev.rv (ev_var (ea := D.int) 2 j rfl)))))) (by simp -implicitDefEqProofs only [Option.bind_some, Option.bind_fun_some]) : Ev _ _ _ ((((atI web.2 i).bind fun x3 => some x3.1).bind fun x8 => (atI web.2 j).bind fun x9 => some (inP x8 x9)).bind fun x19 => if x19 = true then some true else ((atI web.2 i).bind fun x12 => some x12.2).bind fun x17 => (atI web.2 j).bind fun x18 => some (inP x17 x18))) (fun _ => rfl)))
theorem l__law_lay (web : (Int × (List (Int × Int)))) (k : Int) : Fp (m__law_lay) [.x ((e2 D.int (eT (e2 D.int D.int))) web), .x (D.int k)] (eL (eT D.int)) (t__law_lay web k) := by
  unfold m__law_lay t__law_lay b__law_lay
  exact fp_body (s := [.val ((e2 D.int (eT (e2 D.int D.int))) web), .val (D.int k), .any, .any, .any, .any, .any, .any, .any]) rfl rfl (sk_set' (S1 := [.val ((e2 D.int (eT (e2 D.int D.int))) web), .val (D.int k), .val ((eL (eT D.int)) [[]]), .any, .any, .any, .any, .any, .any]) 2 ((ev_lst (L := (fun p : (List Int) × Unit => [(eT D.int) p.1])) (e := (eL (eT D.int))) (fun p => [p.1]) (fun _ => rfl) (fun _ => bigK 1 rfl) (av_cons (ev_tup (L := fun _ : Unit => []) (e := (eT D.int)) (fun _ => []) (fun _ => rfl) (fun _ => bigK 0 rfl) av_nil) av_nil)) : Ev _ _ (eL (eT D.int)) (some [[]])) rfl (sk_forM (σ := (List (List Int))) (S := fun s2 => [.val ((e2 D.int (eT (e2 D.int D.int))) web), .val (D.int k), .val ((eL (eT D.int)) s2), .any, .any, .any, .any, .any, .any]) (C := fun s2 => none) (S1 := fun s2 y3 => [.val ((e2 D.int (eT (e2 D.int D.int))) web), .val (D.int k), .val ((eL (eT D.int)) s2), .val (D.int y3), .any, .any, .any, .any, .any]) (fun _ => [[]]) (ig_iv (e := D.int) (ivE (iv_rg (Ev.rv (ev_un (ea := (eT (e2 D.int D.int))) (eb := D.int) (fun a1 => some (len a1)) op_lenT (Ev.rv (ev_ixF (ea := (e2 D.int (eT (e2 D.int D.int)))) (eb := (eT (e2 D.int D.int))) (1 : Int) (fun x => x.2) (fun _ => rfl) (Ev.rv (ev_var (ea := (e2 D.int (eT (e2 D.int D.int)))) 0 web rfl)) (Ev.rv (ev_c (ea := D.int) (1 : Int) rfl))))))) (by simp -implicitDefEqProofs only [Option.bind_some, Option.bind_fun_some]) : Iv _ _ _ (rg (len web.2)))) (fun _ => wk_of _ [0, 0, 0, 0, 0, 0, 0, 0, 0]) (fun _ => rfl) (fun s2 y3 => (tg_name rfl)) (fun s2 y3 => (sk_set' (S1 := [.val ((e2 D.int (eT (e2 D.int D.int))) web), .val (D.int k), .val ((eL (eT D.int)) s2), .val (D.int y3), .val ((eL (eT D.int)) []), .any, .any, .any, .any]) 4 ((ev_lst (L := fun _ : Unit => []) (e := (eL (eT D.int))) (fun _ => []) (fun _ => rfl) (fun _ => bigK 0 rfl) av_nil) : Ev _ _ (eL (eT D.int)) (some [])) rfl (sk_forM' (σ := (List (List Int))) (S := fun s4 => [.val ((e2 D.int (eT (e2 D.int D.int))) web), .val (D.int k), .val ((eL (eT D.int)) s2), .val (D.int y3), .val ((eL (eT D.int)) s4), .any, .any, .any, .any]) (C := fun s4 => none) (S1 := fun s4 y5 => [.val ((e2 D.int (eT (e2 D.int D.int))) web), .val (D.int k), .val ((eL (eT D.int)) s2), .val (D.int y3), .val ((eL (eT D.int)) s4), .val ((eT D.int) y5), .any, .any, .any]) [] (ig_iv' (e := (eT D.int)) ((iv_lst (ea := (eT D.int)) (ev_var (ea := (eL (eT D.int))) 2 s2 rfl)) : Iv _ _ _ (some s2))) (wk_of _ [0, 0, 0, 0, 0, 0, 0, 0, 0]) rfl (fun s4 y5 => (tg_name rfl)) (fun s4 y5 => (sk_set (S1 := fun v10 => [.val ((e2 D.int (eT (e2 D.int D.int))) web), .val (D.int k), .val ((eL (eT D.int)) s2), .val (D.int y3), .val ((eL (eT D.int)) s4), .val ((eT D.int) y5), .val ((eL D.int) v10), .any, .any]) 6 (evE (ev_lcM (ei := D.int) (ef := D.int) (S1 := fun y6 => [.val ((e2 D.int (eT (e2 D.int D.int))) web), .val (D.int k), .val ((eL (eT D.int)) s2), .val (D.int y3), .val ((eL (eT D.int)) s4), .val ((eT D.int) y5), .any, .val (D.int y6), .any]) (iv_rg (Ev.rv (ev_var (ea := D.int) 3 y3 rfl))) (fun y6 => (tg_name rfl)) (fun y6 => (tvE (tv_of (ev_call (ea := D.bl) (t := fun (p : ((Int × (List (Int × Int))) × Int × Int × Unit)) => t__law_clash p.1 p.2.1 p.2.2.1) (fun (p : ((Int × (List (Int × Int))) × Int × Int × Unit)) => (l__law_clash  p.1 p.2.1 p.2.2.1)) (cv_x (ev_var (ea := (e2 D.int (eT (e2 D.int D.int)))) 0 web rfl) (cv_x (ev_var (ea := D.int) 3 y3 rfl) (cv_x (ev_var (ea := D.int) 7 y6 rfl) cv_nil))))) (by simp -implicitDefEqProofs only [Option.bind_some, Option.bind_fun_some]) : Tv _ _ (t__law_clash web y3 y6))) (fun y6 => (evE (ev_ix (ea := (eT D.int)) (eb := D.int) (ec := D.int) (fun a7 b8 => atI a7 b8) op_ixT (Ev.rv (ev_var (ea := (eT D.int)) 5 y5 rfl)) (Ev.rv (ev_var (ea := D.int) 7 y6 rfl))) (by simp -implicitDefEqProofs only [Option.bind_some, Option.bind_fun_some]) : Ev _ _ _ (atI y5 y6)))) (by simp -implicitDefEqProofs only [Option.bind_some, Option.bind_fun_some]) : Ev _ _ (eL D.int) ((rg y3).bind fun x9 => lcM (fun y6 => t__law_clash web y3 y6) (fun y6 => atI y5 y6) x9)) (fun _ => rfl) (fun v10 => (sk_last (sk_set (S1 := fun v20 => [.val ((e2 D.int (eT (e2 D.int D.int))) web), .val (D.int k), .val ((eL (eT D.int)) s2), .val (D.int y3), .val ((eL (eT D.int)) v20), .val ((eT D.int) y5), .val ((eL D.int) v10), .any, .any]) 4 (evE (ev_bin (ea := (eL (eT D.int))) (eb := (eL (eT D.int))) (ec := (eL (eT D.int))) (fun a17 b18 => catG a17 b18) op_catL (Ev.rv (ev_var (ea := (eL (eT D.int))) 4 s4 rfl)) (Ev.rv (ev_lcM (ei := D.int) (ef := (eT D.int)) (S1 := fun y11 => [.val ((e2 D.int (eT (e2 D.int D.int))) web), .val (D.int k), .val ((eL (eT D.int)) s2), .val (D.int y3), .val ((eL (eT D.int)) s4), .val ((eT D.int) y5), .val ((eL D.int) v10), .any, .val (D.int y11)]) (iv_rg (Ev.rv (ev_var (ea := D.int) 1 k rfl))) (fun y11 => (tg_name rfl)) (fun y11 => (tvE (tv_of (ev_bin (ea := D.int) (eb := (eL D.int)) (ec := D.bl) (fun a12 b13 => some (!memB a12 b13)) (TL.op_ninL pyE_int) (Ev.rv (ev_var (ea := D.int) 8 y11 rfl)) (Ev.rv (ev_var (ea := (eL D.int)) 6 v10 rfl)))) (by simp -implicitDefEqProofs only [Option.bind_some, Option.bind_fun_some]) : Tv _ _ (some (!memB y11 v10)))) (fun y11 => (evE (ev_bin (ea := (eT D.int)) (eb := (eT D.int)) (ec := (eT D.int)) (fun a14 b15 => catG a14 b15) op_catT (Ev.rv (ev_var (ea := (eT D.int)) 5 y5 rfl)) (Ev.rv (ev_tup (L := (fun p : Int × Unit => [D.int p.1])) (e := (eT D.int)) (fun p => [p.1]) (fun _ => rfl) (fun _ => bigK 1 rfl) (av_cons (ev_var (ea := D.int) 8 y11 rfl) av_nil)))) (by simp -implicitDefEqProofs only [Option.bind_some, Option.bind_fun_some]) : Ev _ _ _ (catG y5 [y11])))))) (by simp -implicitDefEqProofs only [Option.bind_some, Option.bind_fun_some]) : Ev _ _ (eL (eT D.int)) (((rg k).bind fun x16 => lcM (fun y11 => some (!memB y11 v10)) (fun y11 => catG y5 [y11]) x16).bind fun x19 => catG s4 x19)) (fun _ => rfl) (fun v20 => (sk_lp _ rfl (wk_of _ [0, 0, 0, 0, 0, 1, 1, 0, 0])))))))) (fun s21 => (sk_last (sk_set' (S1 := [.val ((e2 D.int (eT (e2 D.int D.int))) web), .val (D.int k), .val ((eL (eT D.int)) s21), .val (D.int y3), .val ((eL (eT D.int)) s21), .any, .any, .any, .any]) 2 ((ev_var (ea := (eL (eT D.int))) 4 s21 rfl) : Ev _ _ (eL (eT D.int)) (some s21)) rfl (sk_lp _ rfl (wk_of _ [0, 0, 0, 1, 1, 0, 0, 0, 0])))))))) (fun s22 => (sk_last (sk_ret' _ ((ev_var (ea := (eL (eT D.int))) 2 s22 rfl) : Ev _ _ _ (some s22)) rfl)))))
theorem l__law_falling (k : Int) (g : Int) : Fp (m__law_falling) [.x (D.int k), .x (D.int g)] D.int (t__law_falling k g) := by
  unfold m__law_falling t__law_falling b__law_falling
  exact fp_body (s := [.val (D.int k), .val (D.int g), .any, .any]) rfl rfl (sk_set' (S1 := [.val (D.int k), .val (D.int g), .val (D.int (1 : Int)), .any]) 2 ((ev_c (ea := D.int) (1 : Int) rfl) : Ev _ _ D.int (some (1 : Int))) rfl (sk_forM (σ := Int) (S := fun s1 => [.val (D.int k), .val (D.int g), .val (D.int s1), .any]) (C := fun s1 => none) (S1 := fun s1 y2 => [.val (D.int k), .val (D.int g), .val (D.int s1), .val (D.int y2)]) (fun _ => (1 : Int)) (ig_iv (e := D.int) (ivE (iv_rg (Ev.rv (ev_var (ea := D.int) 1 g rfl))) (by simp -implicitDefEqProofs only [Option.bind_some, Option.bind_fun_some]) : Iv _ _ _ (rg g))) (fun _ => wk_of _ [0, 0, 0, 0]) (fun _ => rfl) (fun s1 y2 => (tg_name rfl)) (fun s1 y2 => (sk_last (sk_set (S1 := fun v7 => [.val (D.int k), .val (D.int g), .val (D.int v7), .val (D.int y2)]) 2 (evE (ev_bin (ea := D.int) (eb := D.int) (ec := D.int) (fun a5 b6 => mulG a5 b6) op_mul (Ev.rv (ev_var (ea := D.int) 2 s1 rfl)) (Ev.rv (ev_bin (ea := D.int) (eb := D.int) (ec := D.int) (fun a3 b4 => some (a3 - b4)) op_sub (Ev.rv (ev_var (ea := D.int) 0 k rfl)) (Ev.rv (ev_var (ea := D.int) 3 y2 rfl))))) (by simp -implicitDefEqProofs only [Option.bind_some, Option.bind_fun_some]) : Ev _ _ D.int (mulG s1 (k - y2))) (fun _ => rfl) (fun v7 => (sk_lp _ rfl (wk_of _ [0, 0, 0, 1])))))) (fun s8 => (sk_last (sk_ret' _ ((ev_var (ea := D.int) 2 s8 rfl) : Ev _ _ _ (some s8)) rfl)))))
theorem l__law_in_order (plan : (List Int)) : Fp (m__law_in_order) [.x ((eT D.int) plan)] D.bl (t__law_in_order plan) := by
  unfold m__law_in_order t__law_in_order b__law_in_order
  exact fp_body (s := [.val ((eT D.int) plan), .any]) rfl rfl (sk_forX (σ := Unit) (ρ' := Bool) (R := fun r => r) (S := fun s2 => [.val ((eT D.int) plan), .any]) (C := fun s2 => none) (S1 := fun s2 y3 => [.val ((eT D.int) plan), .val (D.int y3)]) (fun _ => ()) (fun _ => by exact trivial) (ig_iv (e := D.int) (ivE (iv_rg (Ev.rv (ev_un (ea := (eT D.int)) (eb := D.int) (fun a1 => some (len a1)) op_lenT (Ev.rv (ev_var (ea := (eT D.int)) 0 plan rfl))))) (by simp -implicitDefEqProofs only [Option.bind_some, Option.bind_fun_some]) : Iv _ _ _ (rg (len plan)))) (fun _ => wk_of _ [0, 0]) (fun _ => rfl) (fun s2 y3 => (tg_name rfl)) (fun s2 y3 => (sk_last (sk_if (tvE (tv_and (tv_of (ev_bin (ea := D.int) (eb := D.int) (ec := D.bl) (fun a6 b7 => some (decide (b7 < a6))) op_gt (Ev.rv (ev_ix (ea := (eT D.int)) (eb := D.int) (ec := D.int) (fun a4 b5 => atI a4 b5) op_ixT (Ev.rv (ev_var (ea := (eT D.int)) 0 plan rfl)) (Ev.rv (ev_var (ea := D.int) 1 y3 rfl)))) (Ev.rv (ev_c (ea := D.int) (0 : Int) rfl)))) (tv_of (ev_bin (ea := D.int) (eb := (eT D.int)) (ec := D.bl) (fun a14 b15 => some (!memB a14 b15)) (TL.op_ninT pyE_int) (Ev.rv (ev_bin (ea := D.int) (eb := D.int) (ec := D.int) (fun a11 b12 => some (a11 - b12)) op_sub (Ev.rv (ev_ix (ea := (eT D.int)) (eb := D.int) (ec := D.int) (fun a9 b10 => atI a9 b10) op_ixT (Ev.rv (ev_var (ea := (eT D.int)) 0 plan rfl)) (Ev.rv (ev_var (ea := D.int) 1 y3 rfl)))) (Ev.rv (ev_c (ea := D.int) (1 : Int) rfl)))) (Ev.rv (ev_slT (e := D.int) (Ev.rv (ev_var (ea := (eT D.int)) 0 plan rfl)) ov_none (ov_some (Ev.rv (ev_var (ea := D.int) 1 y3 rfl)))))))) (by simp -implicitDefEqProofs only [Option.bind_some, Option.bind_fun_some]) : Tv _ _ (((atI plan y3).bind fun x8 => some (decide ((0 : Int) < x8))).bind fun x17 => if x17 = true then ((atI plan y3).bind fun x13 => some (x13 - (1 : Int))).bind fun x16 => some (!memB x16 (cutD plan none (some y3))) else some false)) (sk_ret' _ ((ev_c (ea := D.bl) false rfl) : Ev _ _ _ (some false)) rfl) (sk_nilSeq (sk_lp _ rfl (wk_of _ [0, 1])))))) (fun s19 => (sk_last (sk_ret' _ ((ev_c (ea := D.bl) true rfl) : Ev _ _ _ (some true)) rfl))))
theorem l__law_groups (web : (Int × (List (Int × Int)))) : Fp (m__law_groups) [.x ((e2 D.int (eT (e2 D.int D.int))) web)] (eL D.int) (t__law_groups web) := by
  unfold m__law_groups t__law_groups b__law_groups
  exact fp_body (s := [.val ((e2 D.int (eT (e2 D.int D.int))) web), .any, .any, .any, .any, .any]) rfl rfl (sk_set (S1 := fun v4 => [.val ((e2 D.int (eT (e2 D.int D.int))) web), .val ((eL (eT D.int)) v4), .any, .any, .any, .any]) 1 (evE (ev_lcM (ei := (eT D.int)) (ef := (eT D.int)) (S1 := fun y2 => [.val ((e2 D.int (eT (e2 D.int D.int))) web), .any, .any, .val ((eT D.int) y2), .any, .any]) (iv_lst (ea := (eT D.int)) (ev_call (ea := (eL (eT D.int))) (t := fun (p : ((Int × (List (Int × Int))) × Int × Unit)) => t__law_lay p.1 p.2.1) (fun (p : ((Int × (List (Int × Int))) × Int × Unit)) => (l__law_lay  p.1 p.2.1)) (cv_x (ev_var (ea := (e2 D.int (eT (e2 D.int D.int)))) 0 web rfl) (cv_x (ev_un (ea := (eT (e2 D.int D.int))) (eb := D.int) (fun a1 => some (len a1)) op_lenT (Ev.rv (ev_ixF (ea := (e2 D.int (eT (e2 D.int D.int)))) (eb := (eT (e2 D.int D.int))) (1 : Int) (fun x => x.2) (fun _ => rfl) (Ev.rv (ev_var (ea := (e2 D.int (eT (e2 D.int D.int)))) 0 web rfl)) (Ev.rv (ev_c (ea := D.int) (1 : Int) rfl))))) cv_nil)))) (fun y2 => (tg_name rfl)) (fun y2 => (tvE (tv_of (ev_call (ea := D.bl) (t := fun (p : ((List Int) × Unit)) => t__law_in_order p.1) (fun (p : ((List Int) × Unit)) => (l__law_in_order  p.1)) (cv_x (ev_var (ea := (eT D.int)) 3 y2 rfl) cv_nil))) (by simp -implicitDefEqProofs only [Option.bind_some, Option.bind_fun_some]) : Tv _ _ (t__law_in_order y2))) (fun y2 => (evE (ev_var (ea := (eT D.int)) 3 y2 rfl) (by simp -implicitDefEqProofs only [Option.bind_some, Option.bind_fun_some]) : Ev _ _ _ (some y2)))) (by simp -implicitDefEqProofs only [Option.bind_some, Option.bind_fun_some]) : Ev _ _ (eL (eT D.int)) ((t__law_lay web (len web.2)).bind fun x3 => lcM (fun y2 => t__law_in_order y2) (fun y2 => some y2) x3)) (fun _ => rfl) (fun v4 => (sk_set (S1 := fun v13 => [.val ((e2 D.int (eT (e2 D.int D.int))) web), .val ((eL (eT D.int)) v4), .val ((eL D.int) v13), .any, .any, .any]) 2 (evE (ev_mpM (ei := (eT D.int)) (ef := D.int) (S1 := fun y5 => [.val ((e2 D.int (eT (e2 D.int D.int))) web), .val ((eL (eT D.int)) v4), .any, .val ((eT D.int) y5), .any, .any]) (iv_lst (ea := (eT D.int)) (ev_var (ea := (eL (eT D.int))) 1 v4 rfl)) (fun y5 => (tg_name rfl)) (fun y5 => (evE (ev_if (tv_of (ev_bin (ea := D.int) (eb := D.int) (ec := D.bl) (fun a7 b8 => some (decide (b8 < a7))) op_gt (Ev.rv (ev_un (ea := (eT D.int)) (eb := D.int) (fun a6 => some (len a6)) op_lenT (Ev.rv (ev_var (ea := (eT D.int)) 3 y5 rfl)))) (Ev.rv (ev_c (ea := D.int) (0 : Int) rfl)))) (ev_bin (ea := D.int) (eb := D.int) (ec := D.int) (fun a10 b11 => some (a10 + b11)) op_add (Ev.rv (ev_un (ea := (eT D.int)) (eb := D.int) (fun a9 => maxG ltI a9) (op_maxT pyO_int) (Ev.rv (ev_var (ea := (eT D.int)) 3 y5 rfl)))) (Ev.rv (ev_c (ea := D.int) (1 : Int) rfl))) (ev_c (ea := D.int) (0 : Int) rfl)) (by simp -implicitDefEqProofs only [Option.bind_some, Option.bind_fun_some]) : Ev _ _ _ (if (decide ((0 : Int) < (len y5))) = true then (maxG ltI y5).bind fun x12 => some (x12 + (1 : Int)) else some (0 : Int))))) (by simp -implicitDefEqProofs only [Option.bind_some, Option.bind_fun_some]) : Ev _ _ (eL D.int) (mpM (fun y5 => if (decide ((0 : Int) < (len y5))) = true then (maxG ltI y5).bind fun x12 => some (x12 + (1 : Int)) else some (0 : Int)) v4)) (fun _ => rfl) (fun v13 => (sk_last (sk_ret0 (evE (ev_mp (ei := D.int) (ef := D.int) (S1 := fun y17 => [.val ((e2 D.int (eT (e2 D.int D.int))) web), .val ((eL (eT D.int)) v4), .val ((eL D.int) v13), .any, .val (D.int y17), .any]) (iv_rg (Ev.rv (ev_bin (ea := D.int) (eb := D.int) (ec := D.int) (fun a15 b16 => some (a15 + b16)) op_add (Ev.rv (ev_un (ea := (eT (e2 D.int D.int))) (eb := D.int) (fun a14 => some (len a14)) op_lenT (Ev.rv (ev_ixF (ea := (e2 D.int (eT (e2 D.int D.int)))) (eb := (eT (e2 D.int D.int))) (1 : Int) (fun x => x.2) (fun _ => rfl) (Ev.rv (ev_var (ea := (e2 D.int (eT (e2 D.int D.int)))) 0 web rfl)) (Ev.rv (ev_c (ea := D.int) (1 : Int) rfl)))))) (Ev.rv (ev_c (ea := D.int) (2 : Int) rfl))))) (fun y17 => (tg_name rfl)) (fun y17 => (evE (ev_un (ea := (eL D.int)) (eb := D.int) (fun a21 => some (len a21)) op_lenL (Ev.rv (ev_lc (ei := D.int) (ef := D.int) (S1 := fun y18 => [.val ((e2 D.int (eT (e2 D.int D.int))) web), .val ((eL (eT D.int)) v4), .val ((eL D.int) v13), .any, .val (D.int y17), .val (D.int y18)]) (iv_lst (ea := D.int) (ev_var (ea := (eL D.int)) 2 v13 rfl)) (fun y18 => (tg_name rfl)) (fun y18 => (tvE (tv_of (ev_bin (ea := D.int) (eb := D.int) (ec := D.bl) (fun a19 b20 => some (decide (a19 = b20))) (op_eq (PyE.eq pyE_int)) (Ev.rv (ev_var (ea := D.int) 5 y18 rfl)) (Ev.rv (ev_var (ea := D.int) 4 y17 rfl)))) (by simp -implicitDefEqProofs only [Option.bind_some, Option.bind_fun_some]) : Tv _ _ (some (decide (y18 = y17))))) (fun y18 => (evE (ev_c (ea := D.int) (1 : Int) rfl) (by simp -implicitDefEqProofs only [Option.bind_some, Option.bind_fun_some]) : Ev _ _ _ (some (1 : Int))))))) (by simp -implicitDefEqProofs only [Option.bind_some, Option.bind_fun_some]) : Ev _ _ _ (some (len ((v13.filter fun y18 => decide (y18 = y17)).map fun y18 => (1 : Int))))))) (by simp -implicitDefEqProofs only [Option.bind_some, Option.bind_fun_some]) : Ev _ _ _ ((rg ((len web.2) + (2 : Int))).bind fun x22 => some (x22.map fun y17 => len ((v13.filter fun y18 => decide (y18 = y17)).map fun y18 => (1 : Int))))) (fun _ => rfl)))))))
theorem l__law_one_more (row : List Int) (tot : Int) (web : (Int × (List (Int × Int)))) (plans : (List (List Int))) (k : Int) (c : Int) : Fd (m__law_one_more) [.deal row tot, .x ((e2 D.int (eT (e2 D.int D.int))) web), .x ((eL (eT D.int)) plans), .x (D.int k)] D.bl c (t__law_one_more row tot web plans k c) := by
  unfold m__law_one_more t__law_one_more b__law_one_more
  exact fd_body (s := [.deal row tot, .val ((e2 D.int (eT (e2 D.int D.int))) web), .val ((eL (eT D.int)) plans), .val (D.int k), .any, .any, .any, .any, .any, .any]) rfl rfl (sk_if' ((tv_of (ev_bin (ea := D.int) (eb := D.int) (ec := D.bl) (fun a1 b2 => some (decide (a1 < b2))) op_lt (Ev.rv (ev_ixF (ea := (e2 D.int (eT (e2 D.int D.int)))) (eb := D.int) (0 : Int) (fun x => x.1) (fun _ => rfl) (Ev.rv (ev_var (ea := (e2 D.int (eT (e2 D.int D.int)))) 1 web rfl)) (Ev.rv (ev_c (ea := D.int) (0 : Int) rfl)))) (Ev.rv (ev_c (ea := D.int) (2 : Int) rfl)))) : Tv _ _ (some (decide (web.1 < (2 : Int))))) (sk_ret' _ ((ev_c (ea := D.bl) true rfl) : Ev _ _ _ (some true)) rfl) (sk_nilSeq (sk_setD (S1 := fun v5 => [.deal row tot, .val ((e2 D.int (eT (e2 D.int D.int))) web), .val ((eL (eT D.int)) plans), .val (D.int k), .val (D.int v5), .any, .any, .any, .any, .any]) 4 (dvE (dv_call (ea := D.int) (t := fun (p : (Int × Unit)) => t__law_take row tot p.1 c) (fun (p : (Int × Unit)) => (l__law_take  row tot p.1 c)) (cv_deal 0 rfl (cv_x (ev_bin (ea := D.int) (eb := D.int) (ec := D.int) (fun a3 b4 => some (a3 - b4)) op_sub (Ev.rv (ev_ixF (ea := (e2 D.int (eT (e2 D.int D.int)))) (eb := D.int) (0 : Int) (fun x => x.1) (fun _ => rfl) (Ev.rv (ev_var (ea := (e2 D.int (eT (e2 D.int D.int)))) 1 web rfl)) (Ev.rv (ev_c (ea := D.int) (0 : Int) rfl)))) (Ev.rv (ev_c (ea := D.int) (1 : Int) rfl))) cv_nil))) (by simp -implicitDefEqProofs only [Option.bind_some, Option.bind_fun_some]) : Dv _ _ D.int _ (t__law_take row tot (web.1 - (1 : Int)) c)) (fun _ => rfl) (fun p7 => (sk_setD (S1 := fun v18 => [.deal row tot, .val ((e2 D.int (eT (e2 D.int D.int))) web), .val ((eL (eT D.int)) plans), .val (D.int k), .val (D.int p7.1), .val (D.int v18), .any, .any, .any, .any]) 5 (dvE (dv_bin (ea := D.int) (eb := D.int) (ec := D.int) (fun a14 b15 => some (a14 + b15)) op_add (rd_rv (Ev.rv (ev_bin (ea := D.int) (eb := D.int) (ec := D.int) (fun a8 b9 => some (a8 + b9)) op_add (Ev.rv (ev_var (ea := D.int) 4 p7.1 rfl)) (Ev.rv (ev_c (ea := D.int) (1 : Int) rfl))))) (fun k16 => (rd_dv (dv_call (ea := D.int) (t := fun (p : (Int × Unit)) => t__law_take row tot p.1 k16.2) (fun (p : (Int × Unit)) => (l__law_take  row tot p.1 k16.2)) (cv_deal 0 rfl (cv_x (ev_bin (ea := D.int) (eb := D.int) (ec := D.int) (fun a12 b13 => some (a12 - b13)) op_sub (Ev.rv (ev_bin (ea := D.int) (eb := D.int) (ec := D.int) (fun a10 b11 => some (a10 - b11)) op_sub (Ev.rv (ev_ixF (ea := (e2 D.int (eT (e2 D.int D.int)))) (eb := D.int) (0 : Int) (fun x => x.1) (fun _ => rfl) (Ev.rv (ev_var (ea := (e2 D.int (eT (e2 D.int D.int)))) 1 web rfl)) (Ev.rv (ev_c (ea := D.int) (0 : Int) rfl)))) (Ev.rv (ev_c (ea := D.int) (1 : Int) rfl)))) (Ev.rv (ev_var (ea := D.int) 4 p7.1 rfl))) cv_nil)))))) (by simp -implicitDefEqProofs only [Option.bind_some, Option.bind_fun_some]) : Dv _ _ D.int _ ((t__law_take row tot ((web.1 - (1 : Int)) - p7.1) p7.2).bind fun p17 => some ((p7.1 + (1 : Int)) + p17.1, p17.2))) (fun _ => rfl) (fun p20 => (sk_set' (S1 := [.deal row tot, .val ((e2 D.int (eT (e2 D.int D.int))) web), .val ((eL (eT D.int)) plans), .val (D.int k), .val (D.int p7.1), .val (D.int p20.1), .val (D.int (0 : Int)), .any, .any, .any]) 6 ((ev_c (ea := D.int) (0 : Int) rfl) : Ev _ _ D.int (some (0 : Int))) rfl (sk_forM' (σ := Int) (S := fun s21 => [.deal row tot, .val ((e2 D.int (eT (e2 D.int D.int))) web), .val ((eL (eT D.int)) plans), .val (D.int k), .val (D.int p7.1), .val (D.int p20.1), .val (D.int s21), .any, .any, .any]) (C := fun s21 => (some p20.2)) (S1 := fun s21 y22 => [.deal row tot, .val ((e2 D.int (eT (e2 D.int D.int))) web), .val ((eL (eT D.int)) plans), .val (D.int k), .val (D.int p7.1), .val (D.int p20.1), .val (D.int s21), .val ((eT D.int) y22), .any, .any]) (0 : Int) (ig_iv' (e := (eT D.int)) ((iv_lst (ea := (eT D.int)) (ev_var (ea := (eL (eT D.int))) 2 plans rfl)) : Iv _ _ _ (some plans))) (wk_of _ [0, 0, 0, 0, 0, 0, 0, 0, 0, 0]) rfl (fun s21 y22 => (tg_name rfl)) (fun s21 y22 => (sk_set (S1 := fun v23 => [.deal row tot, .val ((e2 D.int (eT (e2 D.int D.int))) web), .val ((eL (eT D.int)) plans), .val (D.int k), .val (D.int p7.1), .val (D.int p20.1), .val (D.int s21), .val ((eT D.int) y22), .val ((eL D.int) v23), .any]) 8 (evE (ev_call (ea := (eL D.int)) (t := fun (p : ((Int × (List (Int × Int))) × (List Int) × Int × Int × Unit)) => t_free_days p.1 p.2.1 p.2.2.1 p.2.2.2.1) (fun (p : ((Int × (List (Int × Int))) × (List Int) × Int × Int × Unit)) => (l_free_days  p.1 p.2.1 p.2.2.1 p.2.2.2.1)) (cv_x (ev_var (ea := (e2 D.int (eT (e2 D.int D.int)))) 1 web rfl) (cv_x (ev_var (ea := (eT D.int)) 7 y22 rfl) (cv_x (ev_var (ea := D.int) 5 p20.1 rfl) (cv_x (ev_var (ea := D.int) 3 k rfl) cv_nil))))) (by simp -implicitDefEqProofs only [Option.bind_some, Option.bind_fun_some]) : Ev _ _ (eL D.int) (t_free_days web y22 p20.1 k)) (fun _ => rfl) (fun v23 => (sk_last (sk_set (S1 := fun v33 => [.deal row tot, .val ((e2 D.int (eT (e2 D.int D.int))) web), .val ((eL (eT D.int)) plans), .val (D.int k), .val (D.int p7.1), .val (D.int p20.1), .val (D.int v33), .val ((eT D.int) y22), .val ((eL D.int) v23), .any]) 6 (evE (ev_bin (ea := D.int) (eb := D.int) (ec := D.int) (fun a30 b31 => some (a30 + b31)) op_add (Ev.rv (ev_var (ea := D.int) 6 s21 rfl)) (Ev.rv (ev_un (ea := (eL D.int)) (eb := D.int) (fun a28 => some (len a28)) op_lenL (Ev.rv (ev_lc (ei := D.int) (ef := D.int) (S1 := fun y24 => [.deal row tot, .val ((e2 D.int (eT (e2 D.int D.int))) web), .val ((eL (eT D.int)) plans), .val (D.int k), .val (D.int p7.1), .val (D.int p20.1), .val (D.int s21), .val ((eT D.int) y22), .val ((eL D.int) v23), .val (D.int y24)]) (iv_lst (ea := D.int) (ev_call (ea := (eL D.int)) (t := fun (p : ((Int × (List (Int × Int))) × (List Int) × Int × Int × Unit)) => t_free_days p.1 p.2.1 p.2.2.1 p.2.2.2.1) (fun (p : ((Int × (List (Int × Int))) × (List Int) × Int × Int × Unit)) => (l_free_days  p.1 p.2.1 p.2.2.1 p.2.2.2.1)) (cv_x (ev_var (ea := (e2 D.int (eT (e2 D.int D.int)))) 1 web rfl) (cv_x (ev_var (ea := (eT D.int)) 7 y22 rfl) (cv_x (ev_var (ea := D.int) 4 p7.1 rfl) (cv_x (ev_var (ea := D.int) 3 k rfl) cv_nil)))))) (fun y24 => (tg_name rfl)) (fun y24 => (tvE (tv_of (ev_bin (ea := D.int) (eb := (eL D.int)) (ec := D.bl) (fun a25 b26 => some (memB a25 b26)) (TL.op_inL pyE_int) (Ev.rv (ev_var (ea := D.int) 9 y24 rfl)) (Ev.rv (ev_var (ea := (eL D.int)) 8 v23 rfl)))) (by simp -implicitDefEqProofs only [Option.bind_some, Option.bind_fun_some]) : Tv _ _ (some (memB y24 v23)))) (fun y24 => (evE (ev_var (ea := D.int) 9 y24 rfl) (by simp -implicitDefEqProofs only [Option.bind_some, Option.bind_fun_some]) : Ev _ _ _ (some y24)))))))) (by simp -implicitDefEqProofs only [Option.bind_some, Option.bind_fun_some]) : Ev _ _ D.int ((((t_free_days web y22 p7.1 k).bind fun x27 => some ((x27.filter fun y24 => memB y24 v23).map fun y24 => y24)).bind fun x29 => some (len x29)).bind fun x32 => some (s21 + x32))) (fun _ => rfl) (fun v33 => (sk_lp _ rfl (wk_of _ [0, 0, 0, 0, 0, 0, 0, 1, 1, 0])))))))) (fun s34 => (sk_last (sk_ret (fun a => (a, p20.2)) (evE (ev_call (ea := D.bl) (t := fun (p : (D × D × Unit)) => t__law_same 20 p.1 p.2.1) (fun (p : (D × D × Unit)) => (l__law_same 20  p.1 p.2.1)) (cv_x (ev_up (ev_call (ea := D.int) (t := fun (p : ((Int × (List (Int × Int))) × Int × Unit)) => t_plan_count p.1 p.2.1) (fun (p : ((Int × (List (Int × Int))) × Int × Unit)) => (l_plan_count  p.1 p.2.1)) (cv_x (ev_call (ea := (e2 D.int (eT (e2 D.int D.int)))) (t := fun (p : ((Int × (List (Int × Int))) × Int × Int × Unit)) => t_with_meeting p.1 p.2.1 p.2.2.1) (fun (p : ((Int × (List (Int × Int))) × Int × Int × Unit)) => (l_with_meeting  p.1 p.2.1 p.2.2.1)) (cv_x (ev_var (ea := (e2 D.int (eT (e2 D.int D.int)))) 1 web rfl) (cv_x (ev_var (ea := D.int) 4 p7.1 rfl) (cv_x (ev_var (ea := D.int) 5 p20.1 rfl) cv_nil)))) (cv_x (ev_var (ea := D.int) 3 k rfl) cv_nil)))) (cv_x (ev_up (ev_var (ea := D.int) 6 s34 rfl)) cv_nil))) (by simp -implicitDefEqProofs only [Option.bind_some, Option.bind_fun_some]) : Ev _ _ _ ((((((t_with_meeting web p7.1 p20.1).bind fun x35 => some (x35, k, ())).bind fun q36 => t_plan_count q36.1 q36.2.1).bind fun x37 => some (D.int x37)).bind fun x38 => some (x38, D.int s34, ())).bind fun q39 => t__law_same 20 q39.1 q39.2.1)) (fun _ => rfl))))))))))))
theorem l__law_new_person (row : List Int) (tot : Int) (web : (Int × (List (Int × Int)))) (plans : (List (List Int))) (k : Int) (c : Int) : Fd (m__law_new_person) [.deal row tot, .x ((e2 D.int (eT (e2 D.int D.int))) web), .x ((eL (eT D.int)) plans), .x (D.int k)] D.bl c (t__law_new_person row tot web plans k c) := by
  unfold m__law_new_person t__law_new_person b__law_new_person
  exact fd_body (s := [.deal row tot, .val ((e2 D.int (eT (e2 D.int D.int))) web), .val ((eL (eT D.int)) plans), .val (D.int k), .any, .any, .any, .any]) rfl rfl (sk_if' ((tv_of (ev_bin (ea := D.int) (eb := D.int) (ec := D.bl) (fun a1 b2 => some (decide (a1 = b2))) (op_eq (PyE.eq pyE_int)) (Ev.rv (ev_ixF (ea := (e2 D.int (eT (e2 D.int D.int)))) (eb := D.int) (0 : Int) (fun x => x.1) (fun _ => rfl) (Ev.rv (ev_var (ea := (e2 D.int (eT (e2 D.int D.int)))) 1 web rfl)) (Ev.rv (ev_c (ea := D.int) (0 : Int) rfl)))) (Ev.rv (ev_c (ea := D.int) (0 : Int) rfl)))) : Tv _ _ (some (decide (web.1 = (0 : Int))))) (sk_ret' _ ((ev_c (ea := D.bl) true rfl) : Ev _ _ _ (some true)) rfl) (sk_nilSeq (sk_setD (S1 := fun v3 => [.deal row tot, .val ((e2 D.int (eT (e2 D.int D.int))) web), .val ((eL (eT D.int)) plans), .val (D.int k), .val (D.int v3), .any, .any, .any]) 4 (dvE (dv_call (ea := D.int) (t := fun (p : (Int × Unit)) => t__law_take row tot p.1 c) (fun (p : (Int × Unit)) => (l__law_take  row tot p.1 c)) (cv_deal 0 rfl (cv_x (ev_ixF (ea := (e2 D.int (eT (e2 D.int D.int)))) (eb := D.int) (0 : Int) (fun x => x.1) (fun _ => rfl) (Ev.rv (ev_var (ea := (e2 D.int (eT (e2 D.int D.int)))) 1 web rfl)) (Ev.rv (ev_c (ea := D.int) (0 : Int) rfl))) cv_nil))) (by simp -implicitDefEqProofs only [Option.bind_some, Option.bind_fun_some]) : Dv _ _ D.int _ (t__law_take row tot web.1 c)) (fun _ => rfl) (fun p5 => (sk_set' (S1 := [.deal row tot, .val ((e2 D.int (eT (e2 D.int D.int))) web), .val ((eL (eT D.int)) plans), .val (D.int k), .val (D.int p5.1), .val (D.int (len ((web.2.filter fun y6 => inP p5.1 y6).map fun y6 => (1 : Int)))), .any, .any]) 5 ((ev_un (ea := (eL D.int)) (eb := D.int) (fun a9 => some (len a9)) op_lenL (Ev.rv (ev_lc (ei := (e2 D.int D.int)) (ef := D.int) (S1 := fun y6 => [.deal row tot, .val ((e2 D.int (eT (e2 D.int D.int))) web), .val ((eL (eT D.int)) plans), .val (D.int k), .val (D.int p5.1), .any, .any, .val ((e2 D.int D.int) y6)]) (iv_tup (ea := (e2 D.int D.int)) (ev_ixF (ea := (e2 D.int (eT (e2 D.int D.int)))) (eb := (eT (e2 D.int D.int))) (1 : Int) (fun x => x.2) (fun _ => rfl) (Ev.rv (ev_var (ea := (e2 D.int (eT (e2 D.int D.int)))) 1 web rfl)) (Ev.rv (ev_c (ea := D.int) (1 : Int) rfl)))) (fun y6 => (tg_name rfl)) (fun y6 => (tvE (tv_of (ev_bin (ea := D.int) (eb := (e2 D.int D.int)) (ec := D.bl) (fun a7 b8 => some (inP a7 b8)) (op_inP pyE_int) (Ev.rv (ev_var (ea := D.int) 4 p5.1 rfl)) (Ev.rv (ev_var (ea := (e2 D.int D.int)) 7 y6 rfl)))) (by simp -implicitDefEqProofs only [Option.bind_some, Option.bind_fun_some]) : Tv _ _ (some (inP p5.1 y6)))) (fun y6 => (evE (ev_c (ea := D.int) (1 : Int) rfl) (by simp -implicitDefEqProofs only [Option.bind_some, Option.bind_fun_some]) : Ev _ _ _ (some (1 : Int))))))) : Ev _ _ D.int (some (len ((web.2.filter fun y6 => inP p5.1 y6).map fun y6 => (1 : Int))))) rfl (sk_set (S1 := fun v17 => [.deal row tot, .val ((e2 D.int (eT (e2 D.int D.int))) web), .val ((eL (eT D.int)) plans), .val (D.int k), .val (D.int p5.1), .val (D.int (len ((web.2.filter fun y6 => inP p5.1 y6).map fun y6 => (1 : Int)))), .val ((e2 D.int (eT (e2 D.int D.int))) v17), .any]) 6 (evE (ev_tup (L := (fun p : Int × (List (Int × Int)) × Unit => [D.int p.1, (eT (e2 D.int D.int)) p.2.1])) (e := (e2 D.int (eT (e2 D.int D.int)))) (fun p => (p.1, p.2.1)) (fun _ => rfl) (fun _ => bigK 2 rfl) (av_cons (ev_bin (ea := D.int) (eb := D.int) (ec := D.int) (fun a10 b11 => some (a10 + b11)) op_add (Ev.rv (ev_ixF (ea := (e2 D.int (eT (e2 D.int D.int)))) (eb := D.int) (0 : Int) (fun x => x.1) (fun _ => rfl) (Ev.rv (ev_var (ea := (e2 D.int (eT (e2 D.int D.int)))) 1 web rfl)) (Ev.rv (ev_c (ea := D.int) (0 : Int) rfl)))) (Ev.rv (ev_c (ea := D.int) (1 : Int) rfl))) (av_cons (ev_bin (ea := (eT (e2 D.int D.int))) (eb := (eT (e2 D.int D.int))) (ec := (eT (e2 D.int D.int))) (fun a12 b13 => catG a12 b13) op_catT (Ev.rv (ev_ixF (ea := (e2 D.int (eT (e2 D.int D.int)))) (eb := (eT (e2 D.int D.int))) (1 : Int) (fun x => x.2) (fun _ => rfl) (Ev.rv (ev_var (ea := (e2 D.int (eT (e2 D.int D.int)))) 1 web rfl)) (Ev.rv (ev_c (ea := D.int) (1 : Int) rfl)))) (Ev.rv (ev_tup (L := (fun p : (Int × Int) × Unit => [(e2 D.int D.int) p.1])) (e := (eT (e2 D.int D.int))) (fun p => [p.1]) (fun _ => rfl) (fun _ => bigK 1 rfl) (av_cons (ev_tup (L := (fun p : Int × Int × Unit => [D.int p.1, D.int p.2.1])) (e := (e2 D.int D.int)) (fun p => (p.1, p.2.1)) (fun _ => rfl) (fun _ => bigK 2 rfl) (av_cons (ev_var (ea := D.int) 4 p5.1 rfl) (av_cons (ev_ixF (ea := (e2 D.int (eT (e2 D.int D.int)))) (eb := D.int) (0 : Int) (fun x => x.1) (fun _ => rfl) (Ev.rv (ev_var (ea := (e2 D.int (eT (e2 D.int D.int)))) 1 web rfl)) (Ev.rv (ev_c (ea := D.int) (0 : Int) rfl))) av_nil))) av_nil)))) av_nil))) (by simp -implicitDefEqProofs only [Option.bind_some, Option.bind_fun_some]) : Ev _ _ (e2 D.int (eT (e2 D.int D.int))) ((((catG web.2 [(p5.1, web.1)]).bind fun x14 => some (x14, ())).bind fun q15 => some (web.1 + (1 : Int), q15)).bind fun q16 => some (q16.1, q16.2.1))) (fun _ => rfl) (fun v17 => (sk_last (sk_ret (fun a => (a, p5.2)) (evE (ev_call (ea := D.bl) (t := fun (p : (D × D × Unit)) => t__law_same 20 p.1 p.2.1) (fun (p : (D × D × Unit)) => (l__law_same 20  p.1 p.2.1)) (cv_x (ev_up (ev_call (ea := D.int) (t := fun (p : ((Int × (List (Int × Int))) × Int × Unit)) => t_plan_count p.1 p.2.1) (fun (p : ((Int × (List (Int × Int))) × Int × Unit)) => (l_plan_count  p.1 p.2.1)) (cv_x (ev_var (ea := (e2 D.int (eT (e2 D.int D.int)))) 6 v17 rfl) (cv_x (ev_var (ea := D.int) 3 k rfl) cv_nil)))) (cv_x (ev_up (ev_bin (ea := D.int) (eb := D.int) (ec := D.int) (fun a24 b25 => mulG a24 b25) op_mul (Ev.rv (ev_un (ea := (eL (eT D.int))) (eb := D.int) (fun a19 => some (len a19)) op_lenL (Ev.rv (ev_var (ea := (eL (eT D.int))) 2 plans rfl)))) (Ev.rv (ev_bi (ea := D.int) (eb := D.int) (ec := D.int) (fun a22 b23 => some (max a22 b23)) op_max2 (Ev.rv (ev_c (ea := D.int) (0 : Int) rfl)) (Ev.rv (ev_bin (ea := D.int) (eb := D.int) (ec := D.int) (fun a20 b21 => some (a20 - b21)) op_sub (Ev.rv (ev_var (ea := D.int) 3 k rfl)) (Ev.rv (ev_var (ea := D.int) 5 (len ((web.2.filter fun y6 => inP p5.1 y6).map fun y6 => (1 : Int))) rfl)))))))) cv_nil))) (by simp -implicitDefEqProofs only [Option.bind_some, Option.bind_fun_some]) : Ev _ _ _ ((((t_plan_count v17 k).bind fun x18 => some (D.int x18)).bind fun x28 => (((mulG (len plans) (max (0 : Int) (k - (len ((web.2.filter fun y6 => inP p5.1 y6).map fun y6 => (1 : Int)))))).bind fun x26 => some (D.int x26)).bind fun x27 => some (x27, ())).bind fun q29 => some (x28, q29)).bind fun q30 => t__law_same 20 q30.1 q30.2.1)) (fun _ => rfl))))))))))
theorem l__law_beside (web : (Int × (List (Int × Int)))) (other : (Int × (List (Int × Int)))) (k : Int) : Fp (m__law_beside) [.x ((e2 D.int (eT (e2 D.int D.int))) web), .x ((e2 D.int (eT (e2 D.int D.int))) other), .x (D.int k)] D.bl (t__law_beside web other k) := by
  unfold m__law_beside t__law_beside b__law_beside
  exact fp_body (s := [.val ((e2 D.int (eT (e2 D.int D.int))) web), .val ((e2 D.int (eT (e2 D.int D.int))) other), .val (D.int k), .any, .any, .any, .any]) rfl rfl (sk_set' (S1 := [.val ((e2 D.int (eT (e2 D.int D.int))) web), .val ((e2 D.int (eT (e2 D.int D.int))) other), .val (D.int k), .val ((eT (e2 D.int D.int)) (other.2.map fun y1 => (y1.1 + web.1, y1.2 + web.1))), .any, .any, .any]) 3 ((ev_un (ea := (eL (e2 D.int D.int))) (eb := (eT (e2 D.int D.int))) (fun a6 => some a6) op_tupL (Ev.rv (ev_mp (ei := (e2 D.int D.int)) (ef := (e2 D.int D.int)) (S1 := fun y1 => [.val ((e2 D.int (eT (e2 D.int D.int))) web), .val ((e2 D.int (eT (e2 D.int D.int))) other), .val (D.int k), .any, .any, .val (D.int y1.1), .val (D.int y1.2)]) (iv_tup (ea := (e2 D.int D.int)) (ev_ixF (ea := (e2 D.int (eT (e2 D.int D.int)))) (eb := (eT (e2 D.int D.int))) (1 : Int) (fun x => x.2) (fun _ => rfl) (Ev.rv (ev_var (ea := (e2 D.int (eT (e2 D.int D.int)))) 1 other rfl)) (Ev.rv (ev_c (ea := D.int) (1 : Int) rfl)))) (fun y1 => (tg_tup rfl rfl rfl)) (fun y1 => (evE (ev_tup (L := (fun p : Int × Int × Unit => [D.int p.1, D.int p.2.1])) (e := (e2 D.int D.int)) (fun p => (p.1, p.2.1)) (fun _ => rfl) (fun _ => bigK 2 rfl) (av_cons (ev_bin (ea := D.int) (eb := D.int) (ec := D.int) (fun a2 b3 => some (a2 + b3)) op_add (Ev.rv (ev_var (ea := D.int) 5 y1.1 rfl)) (Ev.rv (ev_ixF (ea := (e2 D.int (eT (e2 D.int D.int)))) (eb := D.int) (0 : Int) (fun x => x.1) (fun _ => rfl) (Ev.rv (ev_var (ea := (e2 D.int (eT (e2 D.int D.int)))) 0 web rfl)) (Ev.rv (ev_c (ea := D.int) (0 : Int) rfl))))) (av_cons (ev_bin (ea := D.int) (eb := D.int) (ec := D.int) (fun a4 b5 => some (a4 + b5)) op_add (Ev.rv (ev_var (ea := D.int) 6 y1.2 rfl)) (Ev.rv (ev_ixF (ea := (e2 D.int (eT (e2 D.int D.int)))) (eb := D.int) (0 : Int) (fun x => x.1) (fun _ => rfl) (Ev.rv (ev_var (ea := (e2 D.int (eT (e2 D.int D.int)))) 0 web rfl)) (Ev.rv (ev_c (ea := D.int) (0 : Int) rfl))))) av_nil))) (by simp -implicitDefEqProofs only [Option.bind_some, Option.bind_fun_some]) : Ev _ _ _ (some (y1.1 + web.1, y1.2 + web.1))))))) : Ev _ _ (eT (e2 D.int D.int)) (some (other.2.map fun y1 => (y1.1 + web.1, y1.2 + web.1)))) rfl (sk_set (S1 := fun v14 => [.val ((e2 D.int (eT (e2 D.int D.int))) web), .val ((e2 D.int (eT (e2 D.int D.int))) other), .val (D.int k), .val ((eT (e2 D.int D.int)) (other.2.map fun y1 => (y1.1 + web.1, y1.2 + web.1))), .val ((e2 D.int (eT (e2 D.int D.int))) v14), .any, .any]) 4 (evE (ev_tup (L := (fun p : Int × (List (Int × Int)) × Unit => [D.int p.1, (eT (e2 D.int D.int)) p.2.1])) (e := (e2 D.int (eT (e2 D.int D.int)))) (fun p => (p.1, p.2.1)) (fun _ => rfl) (fun _ => bigK 2 rfl) (av_cons (ev_bin (ea := D.int) (eb := D.int) (ec := D.int) (fun a7 b8 => some (a7 + b8)) op_add (Ev.rv (ev_ixF (ea := (e2 D.int (eT (e2 D.int D.int)))) (eb := D.int) (0 : Int) (fun x => x.1) (fun _ => rfl) (Ev.rv (ev_var (ea := (e2 D.int (eT (e2 D.int D.int)))) 0 web rfl)) (Ev.rv (ev_c (ea := D.int) (0 : Int) rfl)))) (Ev.rv (ev_ixF (ea := (e2 D.int (eT (e2 D.int D.int)))) (eb := D.int) (0 : Int) (fun x => x.1) (fun _ => rfl) (Ev.rv (ev_var (ea := (e2 D.int (eT (e2 D.int D.int)))) 1 other rfl)) (Ev.rv (ev_c (ea := D.int) (0 : Int) rfl))))) (av_cons (ev_bin (ea := (eT (e2 D.int D.int))) (eb := (eT (e2 D.int D.int))) (ec := (eT (e2 D.int D.int))) (fun a9 b10 => catG a9 b10) op_catT (Ev.rv (ev_ixF (ea := (e2 D.int (eT (e2 D.int D.int)))) (eb := (eT (e2 D.int D.int))) (1 : Int) (fun x => x.2) (fun _ => rfl) (Ev.rv (ev_var (ea := (e2 D.int (eT (e2 D.int D.int)))) 0 web rfl)) (Ev.rv (ev_c (ea := D.int) (1 : Int) rfl)))) (Ev.rv (ev_var (ea := (eT (e2 D.int D.int))) 3 (other.2.map fun y1 => (y1.1 + web.1, y1.2 + web.1)) rfl))) av_nil))) (by simp -implicitDefEqProofs only [Option.bind_some, Option.bind_fun_some]) : Ev _ _ (e2 D.int (eT (e2 D.int D.int))) ((((catG web.2 (other.2.map fun y1 => (y1.1 + web.1, y1.2 + web.1))).bind fun x11 => some (x11, ())).bind fun q12 => some (web.1 + other.1, q12)).bind fun q13 => some (q13.1, q13.2.1))) (fun _ => rfl) (fun v14 => (sk_last (sk_ret0 (evE (ev_call (ea := D.bl) (t := fun (p : (D × D × Unit)) => t__law_same 20 p.1 p.2.1) (fun (p : (D × D × Unit)) => (l__law_same 20  p.1 p.2.1)) (cv_x (ev_up (ev_call (ea := D.int) (t := fun (p : ((Int × (List (Int × Int))) × Int × Unit)) => t_plan_count p.1 p.2.1) (fun (p : ((Int × (List (Int × Int))) × Int × Unit)) => (l_plan_count  p.1 p.2.1)) (cv_x (ev_var (ea := (e2 D.int (eT (e2 D.int D.int)))) 4 v14 rfl) (cv_x (ev_var (ea := D.int) 2 k rfl) cv_nil)))) (cv_x (ev_up (ev_bin (ea := D.int) (eb := D.int) (ec := D.int) (fun a20 b21 => mulG a20 b21) op_mul (Ev.rv (ev_un (ea := (eL (eT D.int))) (eb := D.int) (fun a16 => some (len a16)) op_lenL (Ev.rv (ev_call (ea := (eL (eT D.int))) (t := fun (p : ((Int × (List (Int × Int))) × Int × Unit)) => t__law_lay p.1 p.2.1) (fun (p : ((Int × (List (Int × Int))) × Int × Unit)) => (l__law_lay  p.1 p.2.1)) (cv_x (ev_var (ea := (e2 D.int (eT (e2 D.int D.int)))) 0 web rfl) (cv_x (ev_var (ea := D.int) 2 k rfl) cv_nil)))))) (Ev.rv (ev_un (ea := (eL (eT D.int))) (eb := D.int) (fun a18 => some (len a18)) op_lenL (Ev.rv (ev_call (ea := (eL (eT D.int))) (t := fun (p : ((Int × (List (Int × Int))) × Int × Unit)) => t__law_lay p.1 p.2.1) (fun (p : ((Int × (List (Int × Int))) × Int × Unit)) => (l__law_lay  p.1 p.2.1)) (cv_x (ev_var (ea := (e2 D.int (eT (e2 D.int D.int)))) 1 other rfl) (cv_x (ev_var (ea := D.int) 2 k rfl) cv_nil)))))))) cv_nil))) (by simp -implicitDefEqProofs only [Option.bind_some, Option.bind_fun_some]) : Ev _ _ _ ((((t_plan_count v14 k).bind fun x15 => some (D.int x15)).bind fun x26 => (((((t__law_lay web k).bind fun x17 => some (len x17)).bind fun x22 => ((t__law_lay other k).bind fun x19 => some (len x19)).bind fun x23 => mulG x22 x23).bind fun x24 => some (D.int x24)).bind fun x25 => some (x25, ())).bind fun q27 => some (x26, q27)).bind fun q28 => t__law_same 20 q28.1 q28.2.1)) (fun _ => rfl))))))
theorem l__law_counted (row : List Int) (tot : Int) (web : (Int × (List (Int × Int)))) (c : Int) : Fd (m__law_counted) [.deal row tot, .x ((e2 D.int (eT (e2 D.int D.int))) web)] D.bl c (t__law_counted row tot web c) := by
  unfold m__law_counted t__law_counted b__law_counted
  exact fd_body (s := [.deal row tot, .val ((e2 D.int (eT (e2 D.int D.int))) web), .any, .any, .any]) rfl rfl (sk_set (S1 := fun v1 => [.deal row tot, .val ((e2 D.int (eT (e2 D.int D.int))) web), .val ((eL D.int) v1), .any, .any]) 2 (evE (ev_call (ea := (eL D.int)) (t := fun (p : ((Int × (List (Int × Int))) × Unit)) => t__law_groups p.1) (fun (p : ((Int × (List (Int × Int))) × Unit)) => (l__law_groups  p.1)) (cv_x (ev_var (ea := (e2 D.int (eT (e2 D.int D.int)))) 1 web rfl) cv_nil)) (by simp -implicitDefEqProofs only [Option.bind_some, Option.bind_fun_some]) : Ev _ _ (eL D.int) (t__law_groups web)) (fun _ => rfl) (fun v1 => (sk_forX (σ := Unit) (ρ' := (Bool × Int)) (R := fun r => r) (S := fun s3 => [.deal row tot, .val ((e2 D.int (eT (e2 D.int D.int))) web), .val ((eL D.int) v1), .any, .any]) (C := fun s3 => (some c)) (S1 := fun s3 y4 => [.deal row tot, .val ((e2 D.int (eT (e2 D.int D.int))) web), .val ((eL D.int) v1), .val (D.int y4), .any]) (fun _ => ()) (fun _ => by exact trivial) (ig_iv (e := D.int) (ivE (iv_rg (Ev.rv (ev_un (ea := (eL D.int)) (eb := D.int) (fun a2 => some (len a2)) op_lenL (Ev.rv (ev_var (ea := (eL D.int)) 2 v1 rfl))))) (by simp -implicitDefEqProofs only [Option.bind_some, Option.bind_fun_some]) : Iv _ _ _ (rg (len v1)))) (fun _ => wk_of _ [0, 0, 0, 0, 0]) (fun _ => rfl) (fun s3 y4 => (tg_name rfl)) (fun s3 y4 => (sk_last (sk_if (tvE (tv_not (tv_of (ev_call (ea := D.bl) (t := fun (p : (D × D × Unit)) => t__law_same 20 p.1 p.2.1) (fun (p : (D × D × Unit)) => (l__law_same 20  p.1 p.2.1)) (cv_x (ev_up (ev_call (ea := D.int) (t := fun (p : ((Int × (List (Int × Int))) × Int × Unit)) => t_group_count p.1 p.2.1) (fun (p : ((Int × (List (Int × Int))) × Int × Unit)) => (l_group_count  p.1 p.2.1)) (cv_x (ev_var (ea := (e2 D.int (eT (e2 D.int D.int)))) 1 web rfl) (cv_x (ev_var (ea := D.int) 3 y4 rfl) cv_nil)))) (cv_x (ev_up (ev_ix (ea := (eL D.int)) (eb := D.int) (ec := D.int) (fun a6 b7 => atI a6 b7) op_ixL (Ev.rv (ev_var (ea := (eL D.int)) 2 v1 rfl)) (Ev.rv (ev_var (ea := D.int) 3 y4 rfl)))) cv_nil))))) (by simp -implicitDefEqProofs only [Option.bind_some, Option.bind_fun_some]) : Tv _ _ (((((t_group_count web y4).bind fun x5 => some (D.int x5)).bind fun x10 => (((atI v1 y4).bind fun x8 => some (D.int x8)).bind fun x9 => some (x9, ())).bind fun q11 => some (x10, q11)).bind fun q12 => t__law_same 20 q12.1 q12.2.1).bind fun x13 => some (!x13))) (sk_ret' _ ((ev_c (ea := D.bl) false rfl) : Ev _ _ _ (some false)) rfl) (sk_nilSeq (sk_lp _ rfl (wk_of _ [0, 0, 0, 1, 0])))))) (fun s15 => (sk_setD (S1 := fun v20 => [.deal row tot, .val ((e2 D.int (eT (e2 D.int D.int))) web), .val ((eL D.int) v1), .any, .val (D.int v20)]) 4 (dvE (dv_bin (ea := D.int) (eb := D.int) (ec := D.int) (fun a16 b17 => some (a16 + b17)) op_add (rd_rv (Ev.rv (ev_c (ea := D.int) (5 : Int) rfl))) (fun k18 => (rd_dv (dv_call (ea := D.int) (t := fun (p : (Int × Unit)) => t__law_take row tot p.1 k18.2) (fun (p : (Int × Unit)) => (l__law_take  row tot p.1 k18.2)) (cv_deal 0 rfl (cv_x (ev_c (ea := D.int) (95 : Int) rfl) cv_nil)))))) (by simp -implicitDefEqProofs only [Option.bind_some, Option.bind_fun_some]) : Dv _ _ D.int _ ((t__law_take row tot (95 : Int) c).bind fun p19 => some ((5 : Int) + p19.1, p19.2))) (fun _ => rfl) (fun p22 => (sk_last (sk_ret (fun a => (a, p22.2)) (evE (ev_call (ea := D.bl) (t := fun (p : (D × D × Unit)) => t__law_same 20 p.1 p.2.1) (fun (p : (D × D × Unit)) => (l__law_same 20  p.1 p.2.1)) (cv_x (ev_up (ev_call (ea := D.int) (t := fun (p : ((Int × (List (Int × Int))) × Int × Unit)) => t_plan_count p.1 p.2.1) (fun (p : ((Int × (List (Int × Int))) × Int × Unit)) => (l_plan_count  p.1 p.2.1)) (cv_x (ev_var (ea := (e2 D.int (eT (e2 D.int D.int)))) 1 web rfl) (cv_x (ev_var (ea := D.int) 4 p22.1 rfl) cv_nil)))) (cv_x (ev_up (ev_un (ea := (eL D.int)) (eb := D.int) (fun a33 => some a33.sum) op_sumL (Ev.rv (ev_mpM (ei := D.int) (ef := D.int) (S1 := fun y25 => [.deal row tot, .val ((e2 D.int (eT (e2 D.int D.int))) web), .val ((eL D.int) v1), .val (D.int y25), .val (D.int p22.1)]) (iv_rg (Ev.rv (ev_un (ea := (eL D.int)) (eb := D.int) (fun a24 => some (len a24)) op_lenL (Ev.rv (ev_var (ea := (eL D.int)) 2 v1 rfl))))) (fun y25 => (tg_name rfl)) (fun y25 => (evE (ev_bin (ea := D.int) (eb := D.int) (ec := D.int) (fun a28 b29 => mulG a28 b29) op_mul (Ev.rv (ev_ix (ea := (eL D.int)) (eb := D.int) (ec := D.int) (fun a26 b27 => atI a26 b27) op_ixL (Ev.rv (ev_var (ea := (eL D.int)) 2 v1 rfl)) (Ev.rv (ev_var (ea := D.int) 3 y25 rfl)))) (Ev.rv (ev_call (ea := D.int) (t := fun (p : (Int × Int × Unit)) => t__law_falling p.1 p.2.1) (fun (p : (Int × Int × Unit)) => (l__law_falling  p.1 p.2.1)) (cv_x (ev_var (ea := D.int) 4 p22.1 rfl) (cv_x (ev_var (ea := D.int) 3 y25 rfl) cv_nil))))) (by simp -implicitDefEqProofs only [Option.bind_some, Option.bind_fun_some]) : Ev _ _ _ ((atI v1 y25).bind fun x30 => (t__law_falling p22.1 y25).bind fun x31 => mulG x30 x31))))))) cv_nil))) (by simp -implicitDefEqProofs only [Option.bind_some, Option.bind_fun_some]) : Ev _ _ _ ((((t_plan_count web p22.1).bind fun x23 => some (D.int x23)).bind fun x37 => (((((rg (len v1)).bind fun x32 => mpM (fun y25 => (atI v1 y25).bind fun x30 => (t__law_falling p22.1 y25).bind fun x31 => mulG x30 x31) x32).bind fun x34 => some x34.sum).bind fun x35 => some (D.int x35)).bind fun x36 => some (x36, ())).bind fun q38 => some (x37, q38)).bind fun q39 => t__law_same 20 q39.1 q39.2.1)) (fun _ => rfl)))))))))
noncomputable def p_law : Sx :=
  (sSeq (sSet 2 (eCall m__law_web (aCons (eV 1) (aCons (eC (.int 4)) aNil))))
    (sSeq (sIf (tNotM (tOf (eCall m__law_counted (aCons (eV 1) (aCons (eV 2) aNil))))) (sRet (eC (.bl false))) sNil)
    (sSeq (sFor (iRange1 (eC (.int 5))) (tgName 3) (sSeq (sSet 4 (eCall m__law_lay (aCons (eV 2) (aCons (eV 3) aNil))))
    (sSeq (sIf (tNotM (tOf (eCall (m__law_same 20) (aCons (eCall m_plan_count (aCons (eV 2) (aCons (eV 3) aNil))) (aCons (eUn opLen (eV 4)) aNil))))) (sRet (eC (.bl false))) sNil)
    (sSeq (sSet 5 (eCall m_plan_within (aCons (eV 2) (aCons (eV 3) aNil))))
    (sSeq (sIf (tOrM (tOf (eBin (g2 opNeA) (eBin (g2 opIsN) (eV 5) (eC .non)) (eBin (g2 opEqA) (eUn opLen (eV 4)) (eC (.int 0))))) (tAndM (tOf (eBin (g2 opNotN) (eV 5) (eC .non))) (tOrM (tNotM (tOf (eIsi "tuple" (eV 5)))) (tOf (eBin (g2 opNotIn) (eV 5) (eV 4)))))) (sRet (eC (.bl false))) sNil)
    (sIf (tOrM (tNotM (tOf (eCall m__law_one_more (aCons (eV 1) (aCons (eV 2) (aCons (eV 4) (aCons (eV 3) aNil))))))) (tNotM (tOf (eCall m__law_new_person (aCons (eV 1) (aCons (eV 2) (aCons (eV 4) (aCons (eV 3) aNil)))))))) (sRet (eC (.bl false))) sNil))))))
    (sRet (eCall m__law_beside (aCons (eV 2) (aCons (eCall m__law_few (aCons (eV 1) aNil)) (aCons (eCall m__law_take (aCons (eV 1) (aCons (eC (.int 5)) aNil))) aNil))))))))
theorem l_law (ns row : List Int) (tot c : Int) : Sk p_law [.val (D.scr ns), .deal row tot, .any, .any, .any, .any] (some c) (fun r : Bool × Int => .rt (D.bl r.1) (some r.2)) (t_law ns row tot c) := by
  unfold p_law t_law
  exact (sk_setD (S1 := fun v1 => [.val (D.scr ns), .deal row tot, .val ((e2 D.int (eT (e2 D.int D.int))) v1), .any, .any, .any]) 2 (dvE (dv_call (ea := (e2 D.int (eT (e2 D.int D.int)))) (t := fun (p : (Int × Unit)) => t__law_web row tot p.1 c) (fun (p : (Int × Unit)) => (l__law_web  row tot p.1 c)) (cv_deal 1 rfl (cv_x (ev_c (ea := D.int) (4 : Int) rfl) cv_nil))) (by simp -implicitDefEqProofs only [Option.bind_some, Option.bind_fun_some]) : Dv _ _ (e2 D.int (eT (e2 D.int D.int))) _ (t__law_web row tot (4 : Int) c)) (fun _ => rfl) (fun p3 => (sk_ifD (tdE (td_not (td_of (dv_call (ea := D.bl) (t := fun (p : ((Int × (List (Int × Int))) × Unit)) => t__law_counted row tot p.1 p3.2) (fun (p : ((Int × (List (Int × Int))) × Unit)) => (l__law_counted  row tot p.1 p3.2)) (cv_deal 1 rfl (cv_x (ev_var (ea := (e2 D.int (eT (e2 D.int D.int)))) 2 p3.1 rfl) cv_nil))))) (by simp -implicitDefEqProofs only [Option.bind_some, Option.bind_fun_some]) : Td _ _ _ ((t__law_counted row tot p3.1 p3.2).bind fun p4 => some (!p4.1, p4.2))) (fun p5 => (sk_ret' _ ((ev_c (ea := D.bl) false rfl) : Ev _ _ _ (some false)) rfl)) (fun p5 => (sk_nilSeq (sk_forX (σ := Int) (ρ' := (Bool × Int)) (R := fun r => r) (S := fun s6 => [.val (D.scr ns), .deal row tot, .val ((e2 D.int (eT (e2 D.int D.int))) p3.1), .any, .any, .any]) (C := fun s6 => (some s6)) (S1 := fun s6 y7 => [.val (D.scr ns), .deal row tot, .val ((e2 D.int (eT (e2 D.int D.int))) p3.1), .val (D.int y7), .any, .any]) (fun _ => p5.2) (fun _ => by exact trivial) (ig_iv (e := D.int) (ivE (iv_rg (Ev.rv (ev_c (ea := D.int) (5 : Int) rfl))) (by simp -implicitDefEqProofs only [Option.bind_some, Option.bind_fun_some]) : Iv _ _ _ (rg (5 : Int)))) (fun _ => wk_of _ [0, 0, 0, 0, 0, 0]) (fun _ => rfl) (fun s6 y7 => (tg_name rfl)) (fun s6 y7 => (sk_set (S1 := fun v8 => [.val (D.scr ns), .deal row tot, .val ((e2 D.int (eT (e2 D.int D.int))) p3.1), .val (D.int y7), .val ((eL (eT D.int)) v8), .any]) 4 (evE (ev_call (ea := (eL (eT D.int))) (t := fun (p : ((Int × (List (Int × Int))) × Int × Unit)) => t__law_lay p.1 p.2.1) (fun (p : ((Int × (List (Int × Int))) × Int × Unit)) => (l__law_lay  p.1 p.2.1)) (cv_x (ev_var (ea := (e2 D.int (eT (e2 D.int D.int)))) 2 p3.1 rfl) (cv_x (ev_var (ea := D.int) 3 y7 rfl) cv_nil))) (by simp -implicitDefEqProofs only [Option.bind_some, Option.bind_fun_some]) : Ev _ _ (eL (eT D.int)) (t__law_lay p3.1 y7)) (fun _ => rfl) (fun v8 => (sk_if (tvE (tv_not (tv_of (ev_call (ea := D.bl) (t := fun (p : (D × D × Unit)) => t__law_same 20 p.1 p.2.1) (fun (p : (D × D × Unit)) => (l__law_same 20  p.1 p.2.1)) (cv_x (ev_up (ev_call (ea := D.int) (t := fun (p : ((Int × (List (Int × Int))) × Int × Unit)) => t_plan_count p.1 p.2.1) (fun (p : ((Int × (List (Int × Int))) × Int × Unit)) => (l_plan_count  p.1 p.2.1)) (cv_x (ev_var (ea := (e2 D.int (eT (e2 D.int D.int)))) 2 p3.1 rfl) (cv_x (ev_var (ea := D.int) 3 y7 rfl) cv_nil)))) (cv_x (ev_up (ev_un (ea := (eL (eT D.int))) (eb := D.int) (fun a10 => some (len a10)) op_lenL (Ev.rv (ev_var (ea := (eL (eT D.int))) 4 v8 rfl)))) cv_nil))))) (by simp -implicitDefEqProofs only [Option.bind_some, Option.bind_fun_some]) : Tv _ _ (((((t_plan_count p3.1 y7).bind fun x9 => some (D.int x9)).bind fun x11 => some (x11, D.int (len v8), ())).bind fun q12 => t__law_same 20 q12.1 q12.2.1).bind fun x13 => some (!x13))) (sk_ret' _ ((ev_c (ea := D.bl) false rfl) : Ev _ _ _ (some false)) rfl) (sk_nilSeq (sk_set (S1 := fun v14 => [.val (D.scr ns), .deal row tot, .val ((e2 D.int (eT (e2 D.int D.int))) p3.1), .val (D.int y7), .val ((eL (eT D.int)) v8), .val ((eO (eT D.int)) v14)]) 5 (evE (ev_call (ea := (eO (eT D.int))) (t := fun (p : ((Int × (List (Int × Int))) × Int × Unit)) => t_plan_within p.1 p.2.1) (fun (p : ((Int × (List (Int × Int))) × Int × Unit)) => (l_plan_within  p.1 p.2.1)) (cv_x (ev_var (ea := (e2 D.int (eT (e2 D.int D.int)))) 2 p3.1 rfl) (cv_x (ev_var (ea := D.int) 3 y7 rfl) cv_nil))) (by simp -implicitDefEqProofs only [Option.bind_some, Option.bind_fun_some]) : Ev _ _ (eO (eT D.int)) (t_plan_within p3.1 y7)) (fun _ => rfl) (fun v14 => (sk_if (tvE (tv_or (tv_of (ev_bin (ea := D.bl) (eb := D.bl) (ec := D.bl) (fun a20 b21 => some (!decide (a20 = b21))) (op_ne bl_eqE) (Ev.rv (ev_bin (ea := (eO (eT D.int))) (eb := eU) (ec := D.bl) (fun a15 b16 => some a15.isNone) (op_isN (fun _ h => nomatch h)) (Ev.rv (ev_var (ea := (eO (eT D.int))) 5 v14 rfl)) (Ev.rv (ev_c (ea := eU) () rfl)))) (Ev.rv (ev_bin (ea := D.int) (eb := D.int) (ec := D.bl) (fun a18 b19 => some (decide (a18 = b19))) (op_eq (PyE.eq pyE_int)) (Ev.rv (ev_un (ea := (eL (eT D.int))) (eb := D.int) (fun a17 => some (len a17)) op_lenL (Ev.rv (ev_var (ea := (eL (eT D.int))) 4 v8 rfl)))) (Ev.rv (ev_c (ea := D.int) (0 : Int) rfl)))))) (tv_and (tv_of (ev_bin (ea := (eO (eT D.int))) (eb := eU) (ec := D.bl) (fun a22 b23 => some a22.isSome) (op_notN (fun _ h => nomatch h)) (Ev.rv (ev_var (ea := (eO (eT D.int))) 5 v14 rfl)) (Ev.rv (ev_c (ea := eU) () rfl)))) (tv_or (tv_not (tv_of (ev_isiO "tuple" "tuple" true false (by decide) (by decide) (fun _ => rfl) (Ev.rv (ev_var (ea := (eO (eT D.int))) 5 v14 rfl))))) (tv_of (ev_bin (ea := (eT D.int)) (eb := (eL (eT D.int))) (ec := D.bl) (fun a24 b25 => some (!memB a24 b25)) (TL.op_ninL (pyE_T pyE_int)) (Ev.rv (ev_get (ev_var (ea := (eO (eT D.int))) 5 v14 rfl))) (Ev.rv (ev_var (ea := (eL (eT D.int))) 4 v8 rfl))))))) (by simp -implicitDefEqProofs only [Option.bind_some, Option.bind_fun_some]) : Tv _ _ (if (!decide (v14.isNone = (decide ((len v8) = (0 : Int))))) = true then some true else if v14.isSome = true then if (!(if v14.isSome = true then true else false)) = true then some true else (v14).bind fun x26 => some (!memB x26 v8) else some false)) (sk_ret' _ ((ev_c (ea := D.bl) false rfl) : Ev _ _ _ (some false)) rfl) (sk_nilSeq (sk_last (sk_ifD (tdE (td_or (td_not (td_of (dv_call (ea := D.bl) (t := fun (p : ((Int × (List (Int × Int))) × (List (List Int)) × Int × Unit)) => t__law_one_more row tot p.1 p.2.1 p.2.2.1 s6) (fun (p : ((Int × (List (Int × Int))) × (List (List Int)) × Int × Unit)) => (l__law_one_more  row tot p.1 p.2.1 p.2.2.1 s6)) (cv_deal 1 rfl (cv_x (ev_var (ea := (e2 D.int (eT (e2 D.int D.int)))) 2 p3.1 rfl) (cv_x (ev_var (ea := (eL (eT D.int))) 4 v8 rfl) (cv_x (ev_var (ea := D.int) 3 y7 rfl) cv_nil))))))) (fun k28 => (td_not (td_of (dv_call (ea := D.bl) (t := fun (p : ((Int × (List (Int × Int))) × (List (List Int)) × Int × Unit)) => t__law_new_person row tot p.1 p.2.1 p.2.2.1 k28.2) (fun (p : ((Int × (List (Int × Int))) × (List (List Int)) × Int × Unit)) => (l__law_new_person  row tot p.1 p.2.1 p.2.2.1 k28.2)) (cv_deal 1 rfl (cv_x (ev_var (ea := (e2 D.int (eT (e2 D.int D.int)))) 2 p3.1 rfl) (cv_x (ev_var (ea := (eL (eT D.int))) 4 v8 rfl) (cv_x (ev_var (ea := D.int) 3 y7 rfl) cv_nil))))))))) (by simp -implicitDefEqProofs only [Option.bind_some, Option.bind_fun_some]) : Td _ _ _ (((t__law_one_more row tot p3.1 v8 y7 s6).bind fun p27 => some (!p27.1, p27.2)).bind fun p30 => if p30.1 = true then some (true, p30.2) else (t__law_new_person row tot p3.1 v8 y7 p30.2).bind fun p31 => some (!p31.1, p31.2))) (fun p32 => (sk_ret' _ ((ev_c (ea := D.bl) false rfl) : Ev _ _ _ (some false)) rfl)) (fun p32 => (sk_nilSeq (sk_lp _ rfl (wk_of _ [0, 0, 0, 1, 1, 1]))))))))))))))) (fun s35 => (sk_last (sk_retD0 (dvE (dv_callP (ea := D.bl) (t := fun (p : ((Int × (List (Int × Int))) × (Int × (List (Int × Int))) × Int × Unit)) => t__law_beside p.1 p.2.1 p.2.2.1) (fun (p : ((Int × (List (Int × Int))) × (Int × (List (Int × Int))) × Int × Unit)) => (l__law_beside  p.1 p.2.1 p.2.2.1)) (cd_x (dv_ev (ev_var (ea := (e2 D.int (eT (e2 D.int D.int)))) 2 p3.1 rfl)) (fun k36 => (cd_x (dv_call (ea := (e2 D.int (eT (e2 D.int D.int)))) (t := fun (p : (Unit)) => t__law_few row tot  k36.2) (fun (p : (Unit)) => (l__law_few  row tot  k36.2)) (cv_deal 1 rfl cv_nil)) (fun k37 => (cd_x (dv_call (ea := D.int) (t := fun (p : (Int × Unit)) => t__law_take row tot p.1 k37.2) (fun (p : (Int × Unit)) => (l__law_take  row tot p.1 k37.2)) (cv_deal 1 rfl (cv_x (ev_c (ea := D.int) (5 : Int) rfl) cv_nil))) (fun k38 => (cd_cv cv_nil)))))))) (by simp -implicitDefEqProofs only [Option.bind_some, Option.bind_fun_some]) : Dv _ _ _ _ ((((t__law_few row tot  s35).bind fun p47 => ((t__law_take row tot (5 : Int) p47.2).bind fun p49 => some ((p49.1, ()), p49.2)).bind fun q50 => some ((p47.1, q50.1), q50.2)).bind fun q51 => some ((p3.1, q51.1), q51.2)).bind fun q53 => (t__law_beside q53.1.1 q53.1.2.1 q53.1.2.2.1).bind fun z52 => some (z52, q53.2))) (fun _ _ => rfl))))))))))
theorem law_of {ns : List Int} (H : ∀ row tot, ∃ c, t_law ns row tot 0 = some (true, c)) (hn : ns.length ≤ 63) : ∃ m', m_law [.d (.scr ns)] [] = some (.d (.bl true), m') := law_run (k := 4) (rest := p_law) rfl hn (fun row tot => l_law ns row tot 0) H
end Lw
namespace Lw
open PySem PySem.Spec L2 PL TL
set_option autoImplicit false
noncomputable section
/-! webs, clashes, days -/
abbrev Ms := List (Int × Int)
def mt (ms : Ms) (i : Int) : Int × Int := (ms[i.toNat]?).getD (0, 0)
theorem atI_nn {α : Type} {xs : List α} {i : Int} (h : 0 ≤ i ∧ i < xs.length) : atI xs i = xs[i.toNat]? := by
  unfold atI ixN
  rw [if_pos h.1, if_pos h.2]
  rfl
theorem atI_mt {ms : Ms} {i : Int} (h : 0 ≤ i ∧ i < ms.length) : atI ms i = some (mt ms i) := by
  rw [atI_nn h]
  unfold mt
  rw [List.getElem?_eq_getElem (by omega)]
  rfl
def gt (xs : List Int) (i : Int) : Int := (xs[i.toNat]?).getD 0
theorem atI_gt {xs : List Int} {i : Int} (h : 0 ≤ i ∧ i < xs.length) : atI xs i = some (gt xs i) := by
  rw [atI_nn h]
  unfold gt
  rw [List.getElem?_eq_getElem (by omega)]
  rfl
theorem gt_mem {xs : List Int} {i : Int} (h : 0 ≤ i ∧ i < xs.length) : gt xs i ∈ xs := by
  unfold gt
  rw [List.getElem?_eq_getElem (by omega)]
  exact List.getElem_mem _
theorem mem_gt {xs : List Int} {x : Int} (h : x ∈ xs) : ∃ i : Int, 0 ≤ i ∧ i < xs.length ∧ gt xs i = x := by
  obtain ⟨i, hi, e⟩ := List.getElem_of_mem h
  refine ⟨i, by omega, by omega, ?_⟩
  unfold gt
  rw [Int.toNat_natCast, List.getElem?_eq_getElem hi, e]
  rfl
theorem gt_app {xs ys : List Int} {i : Int} (h : 0 ≤ i ∧ i < xs.length) : gt (xs ++ ys) i = gt xs i := by
  unfold gt
  rw [List.getElem?_append_left (by omega)]
theorem gt_last {xs : List Int} {y : Int} : gt (xs ++ [y]) xs.length = y := by
  unfold gt
  rw [Int.toNat_natCast, List.getElem?_append_right (Nat.le_refl _), Nat.sub_self]
  rfl
def cl (p q : Int × Int) : Bool := inP p.1 q || inP p.2 q
theorem inP_iff {a : Int} {p : Int × Int} : inP a p = true ↔ a = p.1 ∨ a = p.2 := by unfold inP; exact decide_eq_true_iff
theorem cl_iff {p q : Int × Int} : cl p q = true ↔ (p.1 = q.1 ∨ p.1 = q.2) ∨ (p.2 = q.1 ∨ p.2 = q.2) := by
  unfold cl
  rw [Bool.or_eq_true, inP_iff, inP_iff]
theorem cl_comm (p q : Int × Int) : cl p q = cl q p := by
  rw [Bool.eq_iff_iff, cl_iff, cl_iff]
  omega
def clash (ms : Ms) (i j : Int) : Bool := cl (mt ms i) (mt ms j)
theorem clash_comm (ms : Ms) (i j : Int) : clash ms i j = clash ms j i := cl_comm _ _
def Inr (ms : Ms) (i : Int) : Prop := 0 ≤ i ∧ i < ms.length
def Proper (ms : Ms) (k : Int) (c : Int → Int) : Prop := (∀ i, Inr ms i → 0 ≤ c i ∧ c i < k) ∧ ∀ i j, Inr ms i → Inr ms j → i ≠ j → clash ms i j = true → c i ≠ c j
def Can (ms : Ms) (k : Int) : Prop := ∃ c, Proper ms k c
def sw (a b x : Int) : Int := if x = a then b else if x = b then a else x
theorem sw_inj {a b x y : Int} (h : sw a b x = sw a b y) : x = y := by
  unfold sw at h
  split at h <;> split at h <;> (try split at h) <;> (try split at h) <;> omega
theorem sw_in {a b x k : Int} (ha : 0 ≤ a ∧ a < k) (hb : 0 ≤ b ∧ b < k) (hx : 0 ≤ x ∧ x < k) : 0 ≤ sw a b x ∧ sw a b x < k := by
  unfold sw
  split
  · exact hb
  · split
    · exact ha
    · exact hx
theorem sw_ne {a b x : Int} (h1 : x ≠ a) (h2 : x ≠ b) : sw a b x = x := by
  unfold sw
  rw [if_neg h1, if_neg h2]
theorem sw_l (a b : Int) : sw a b a = b := if_pos rfl
theorem Proper.swap {ms : Ms} {k a b : Int} {c : Int → Int} (h : Proper ms k c) (ha : 0 ≤ a ∧ a < k) (hb : 0 ≤ b ∧ b < k) : Proper ms k fun i => sw a b (c i) :=
  ⟨fun i hi => sw_in ha hb (h.1 i hi), fun i j hi hj hij hc e => h.2 i j hi hj hij hc (sw_inj e)⟩
theorem can_len (ms : Ms) : Can ms ms.length := ⟨fun i => i, fun i hi => hi, fun i j _ _ hij _ e => hij e⟩
theorem Proper.mono {ms : Ms} {k k' : Int} {c : Int → Int} (h : Proper ms k c) (hk : k ≤ k') : Proper ms k' c := ⟨fun i hi => by have := h.1 i hi; omega, h.2⟩
theorem len_eq {α : Type} (xs : List α) : len xs = (xs.length : Int) := rfl
theorem lcM_count {α : Type} {c : α → Option Bool} {p : α → Bool} {xs : List α} (h : ∀ x ∈ xs, c x = some (p x)) : lcM c (fun _ => some (1 : Int)) xs = some ((xs.filter p).map fun _ => 1) := lcM_eq h fun _ _ _ => rfl
theorem len_filter0 {α β : Type} {p : α → Bool} {f : α → β} {xs : List α} : len ((xs.filter p).map f) = 0 ↔ ∀ x ∈ xs, p x = false := by
  rw [len_eq, List.length_map]
  constructor
  · intro h x hx
    have h0 : (xs.filter p) = [] := List.eq_nil_of_length_eq_zero (by omega)
    cases hp : p x with
    | false => rfl
    | true =>
      have := List.mem_filter.mpr ⟨hx, hp⟩
      rw [h0] at this
      exact nomatch this
  · intro h
    have : xs.filter p = [] := List.filter_eq_nil_iff.mpr fun x hx => by rw [h x hx]; exact Bool.false_ne_true
    rw [this]
    rfl
theorem maxG_int {xs : List Int} (h : xs ≠ []) : ∃ m, maxG ltI xs = some m ∧ m ∈ xs ∧ ∀ x ∈ xs, x ≤ m := by
  cases xs with
  | nil => exact absurd rfl h
  | cons x xs =>
    refine ⟨_, rfl, ?_⟩
    have : ∀ (l : List Int) (a : Int), (l.foldl (fun a y => if ltI a y = true then y else a) a = a ∨ l.foldl (fun a y => if ltI a y = true then y else a) a ∈ l) ∧ a ≤ l.foldl (fun a y => if ltI a y = true then y else a) a ∧ ∀ y ∈ l, y ≤ l.foldl (fun a y => if ltI a y = true then y else a) a := by
      intro l
      induction l with
      | nil => intro a; exact ⟨.inl rfl, Int.le_refl _, fun y h => nomatch h⟩
      | cons b l ih =>
        intro a
        obtain ⟨h1, h2, h3⟩ := ih (if ltI a b = true then b else a)
        have hab : a ≤ (if ltI a b = true then b else a) ∧ b ≤ (if ltI a b = true then b else a) ∧ ((if ltI a b = true then b else a) = a ∨ (if ltI a b = true then b else a) = b) := by
          unfold ltI
          by_cases z : a < b
          · rw [decide_eq_true z]; simp; omega
          · rw [decide_eq_false z]; simp; omega
        refine ⟨?_, Int.le_trans hab.1 h2, ?_⟩
        · rcases h1 with h1 | h1
          · rcases hab.2.2 with z | z
            · exact .inl (by rw [List.foldl_cons, h1, z])
            · exact .inr (by rw [List.foldl_cons, h1, z]; exact List.mem_cons_self)
          · exact .inr (by rw [List.foldl_cons]; exact List.mem_cons_of_mem _ h1)
        · intro y hy
          rcases List.mem_cons.mp hy with rfl | hy
          · exact Int.le_trans hab.2.1 h2
          · exact h3 y hy
    obtain ⟨h1, h2, h3⟩ := this xs x
    refine ⟨?_, ?_⟩
    · rcases h1 with h1 | h1
      · rw [h1]; exact List.mem_cons_self
      · exact List.mem_cons_of_mem _ h1
    · intro y hy
      rcases List.mem_cons.mp hy with rfl | hy
      · exact h2
      · exact h3 y hy
theorem atI_last {α : Type} {xs : List α} {x : α} : atI (xs ++ [x]) (-1) = some x := by
  unfold atI ixN
  rw [if_neg (by decide), if_pos (by rw [List.length_append]; show -((xs.length + 1 : Nat) : Int) ≤ _; omega), Option.bind_some]
  have : (-1 + ((xs ++ [x]).length : Int)).toNat = xs.length := by rw [List.length_append]; show (-1 + ((xs.length + 1 : Nat) : Int)).toNat = _; omega
  rw [this, List.getElem?_append_right (Nat.le_refl _), Nat.sub_self]
  rfl
theorem rgI_nodup (a : Int) (n : Nat) : (rgI a n).Nodup := by
  unfold rgI
  rw [List.nodup_iff_pairwise_ne, List.pairwise_map]
  exact (List.nodup_iff_pairwise_ne.mp List.nodup_range).imp fun h e => h (by omega)
theorem cutD_from {α : Type} {xs : List α} {a : Int} (h : 0 ≤ a ∧ a ≤ xs.length) : cutD xs (some a) none = xs.drop a.toNat := by
  unfold cutD
  have h1 : HT.sIx xs.length 0 (some a) = a.toNat := by
    show (if a < 0 then _ else min a.toNat xs.length) = _
    rw [if_neg (by omega)]
    omega
  have h2 : HT.sIx xs.length xs.length none = xs.length := rfl
  rw [h1, h2]
  exact List.take_of_length_le (by rw [List.length_drop]; omega)
theorem cutD_to {α : Type} {xs : List α} {a : Int} (h : 0 ≤ a ∧ a ≤ xs.length) : cutD xs none (some a) = xs.take a.toNat := by
  unfold cutD
  have h1 : HT.sIx xs.length 0 none = 0 := rfl
  have h2 : HT.sIx xs.length xs.length (some a) = a.toNat := by
    show (if a < 0 then _ else min a.toNat xs.length) = _
    rw [if_neg (by omega)]
    omega
  rw [h1, h2, List.drop_zero, Nat.sub_zero]
theorem cutD_len {α : Type} (xs : List α) (a b : Option Int) : (cutD xs a b).length ≤ xs.length := by
  unfold cutD
  rw [List.length_take, List.length_drop]
  omega
theorem mem_cutD {α : Type} {x : α} {xs : List α} {a b : Option Int} (h : x ∈ cutD xs a b) : x ∈ xs := List.mem_of_mem_drop (List.mem_of_mem_take h)
end
end Lw
namespace Lw
open PySem PySem.Spec L2 PL TL
set_option autoImplicit false
noncomputable section
/-! sums over lists -/
theorem snoc_ind {α : Type} {P : List α → Prop} (h0 : P []) (hs : ∀ xs x, P xs → P (xs ++ [x])) (xs : List α) : P xs := by
  have : ∀ ys : List α, P ys.reverse := fun ys => by
    induction ys with
    | nil => exact h0
    | cons y ys ih => rw [List.reverse_cons]; exact hs _ _ ih
  have := this xs.reverse
  rw [List.reverse_reverse] at this
  exact this
theorem sum_flat {α β : Type} (h : α → List β) (f : β → Int) (l : List α) : ((l.flatMap h).map f).sum = (l.map fun a => ((h a).map f).sum).sum := by
  induction l with
  | nil => rfl
  | cons a l ih => rw [List.flatMap_cons, List.map_append, List.sum_append, ih]; rfl
theorem sum_perm {α : Type} {l l' : List α} (h : l.Perm l') (f : α → Int) : (l.map f).sum = (l'.map f).sum := by
  induction h with
  | nil => rfl
  | cons x _ ih => rw [List.map_cons, List.map_cons, List.sum_cons, List.sum_cons, ih]
  | swap x y l => simp only [List.map_cons, List.sum_cons]; omega
  | trans _ _ ih1 ih2 => rw [ih1, ih2]
theorem sum_filter {α : Type} (p : α → Bool) (f : α → Int) (l : List α) : ((l.filter p).map f).sum = (l.map fun a => if p a = true then f a else 0).sum := by
  induction l with
  | nil => rfl
  | cons a l ih =>
    rw [List.filter_cons, List.map_cons, List.sum_cons]
    by_cases h : p a = true
    · rw [if_pos h, if_pos h, List.map_cons, List.sum_cons, ih]
    · rw [if_neg h, if_neg h, ih, Int.zero_add]
theorem sum_const {α : Type} (c : Int) (l : List α) : (l.map fun _ => c).sum = l.length * c := by
  induction l with
  | nil => simp
  | cons a l ih => rw [List.map_cons, List.sum_cons, ih, List.length_cons, Int.natCast_add, Int.add_mul]; simp; omega
theorem sum_mul {α : Type} (c : Int) (f : α → Int) (l : List α) : (l.map fun a => c * f a).sum = c * (l.map f).sum := by
  induction l with
  | nil => simp
  | cons a l ih => rw [List.map_cons, List.sum_cons, ih, List.map_cons, List.sum_cons, Int.mul_add]
theorem sum_mulR {α : Type} (c : Int) (f : α → Int) (l : List α) : (l.map fun a => f a * c).sum = (l.map f).sum * c := by
  induction l with
  | nil => simp
  | cons a l ih => rw [List.map_cons, List.sum_cons, ih, List.map_cons, List.sum_cons, Int.add_mul]
theorem sum_congr {α : Type} {f g : α → Int} {l : List α} (h : ∀ a ∈ l, f a = g a) : (l.map f).sum = (l.map g).sum := by rw [List.map_congr_left h]
theorem nodup_filter {α : Type} {l : List α} (p : α → Bool) (h : l.Nodup) : (l.filter p).Nodup := h.sublist List.filter_sublist
theorem in_part {k : Int} {S : List Int} (hS : S.Nodup) (hk : ∀ x ∈ S, 0 ≤ x ∧ x < k) : ((rgI 0 k.toNat).filter fun d => decide (d ∈ S)).Perm S :=
  (List.perm_ext_iff_of_nodup (nodup_filter _ (rgI_nodup 0 _)) hS).mpr fun x => by
    rw [List.mem_filter, mem_rg, decide_eq_true_iff]
    exact ⟨fun h => h.2, fun h => ⟨hk x h, h⟩⟩
theorem out_part {k : Int} (h0 : 0 ≤ k) {S : List Int} (hS : S.Nodup) (hk : ∀ x ∈ S, 0 ≤ x ∧ x < k) : (((rgI 0 k.toNat).filter fun d => !decide (d ∈ S)).length : Int) = k - S.length := by
  have h1 := (List.filter_append_perm (fun d => decide (d ∈ S)) (rgI 0 k.toNat)).length_eq
  rw [List.length_append, (in_part hS hk).length_eq, rgI_len] at h1
  omega
theorem map_idxOf {S : List Int} (hS : S.Nodup) : (S.map fun d => (S.idxOf d : Int)) = rgI 0 S.length := by
  refine List.ext_getElem? fun i => ?_
  unfold rgI
  rw [List.getElem?_map, List.getElem?_map]
  by_cases h : i < S.length
  · rw [List.getElem?_range h, List.getElem?_eq_getElem h]
    show some ((S.idxOf S[i] : Nat) : Int) = some (0 + (i : Int))
    rw [hS.idxOf_getElem i h]
    congr 1
    omega
  · rw [List.getElem?_eq_none (by omega), List.getElem?_eq_none (by rw [List.length_range]; omega)]
    rfl
/-- a sum over all days, by what is used -/
theorem sum_idx {k : Int} (h0 : 0 ≤ k) {S : List Int} (hS : S.Nodup) (hk : ∀ x ∈ S, 0 ≤ x ∧ x < k) (h : Int → Int) : ((rgI 0 k.toNat).map fun d => h (S.idxOf d)).sum = ((rgI 0 S.length).map h).sum + (k - S.length) * h S.length := by
  rw [← sum_perm (List.filter_append_perm (fun d => decide (d ∈ S)) (rgI 0 k.toNat)), List.map_append, List.sum_append]
  congr 1
  · rw [sum_perm (in_part hS hk), ← map_idxOf hS, List.map_map]
    rfl
  · have : (((rgI 0 k.toNat).filter fun d => !decide (d ∈ S)).map fun d => h (S.idxOf d)) = ((rgI 0 k.toNat).filter fun d => !decide (d ∈ S)).map fun _ => h S.length := by
      refine List.map_congr_left fun d hd => ?_
      have := (List.mem_filter.mp hd).2
      rw [Bool.not_eq_true', decide_eq_false_iff_not] at this
      rw [List.idxOf_eq_length this]
    rw [this, sum_const, out_part h0 hS hk]
end
end Lw
namespace Lw
open PySem PySem.Spec L2 PL TL
set_option autoImplicit false
noncomputable section
/-! lays of plans, patterns, groupings -/
theorem lp_flat {α β : Type} {B : Nat} {f : α → List β} {body : List β → α → Option (List β)} : ∀ {xs : List α} {s : List β}, (∀ x ∈ xs, ∀ s : List β, s.length + (f x).length ≤ B → body s x = some (s ++ f x)) → s.length + (xs.flatMap f).length ≤ B → lpM body xs s = some (s ++ xs.flatMap f)
  | [], s, _, _ => by rw [List.flatMap_nil, List.append_nil]; rfl
  | x :: xs, s, h, hb => by
    rw [List.flatMap_cons, List.length_append] at hb
    show (body s x).bind _ = _
    rw [h x List.mem_cons_self s (by omega), Option.bind_some, lp_flat (fun y hy => h y (List.mem_cons_of_mem _ hy)) (by rw [List.length_append]; omega), List.flatMap_cons, List.append_assoc]
def conf (ms : Ms) (plan : List Int) (d : Int) : Bool := (rgI 0 plan.length).any fun j => clash ms plan.length j && decide (gt plan j = d)
theorem conf_iff {ms : Ms} {plan : List Int} {d : Int} : conf ms plan d = true ↔ ∃ j : Int, 0 ≤ j ∧ j < plan.length ∧ clash ms plan.length j = true ∧ gt plan j = d := by
  unfold conf
  rw [List.any_eq_true]
  have hm : ∀ j : Int, j ∈ rgI 0 plan.length ↔ 0 ≤ j ∧ j < plan.length := fun j => by
    have := mem_rg (n := (plan.length : Int)) (x := j)
    rw [Int.toNat_natCast] at this
    exact this
  constructor
  · rintro ⟨j, hj, h⟩
    rw [Bool.and_eq_true, decide_eq_true_iff] at h
    exact ⟨j, ((hm j).mp hj).1, ((hm j).mp hj).2, h.1, h.2⟩
  · rintro ⟨j, h1, h2, h3, h4⟩
    exact ⟨j, (hm j).mpr ⟨h1, h2⟩, by rw [h3, decide_eq_true h4]; rfl⟩
def Lay (ms : Ms) (k : Int) : Nat → List (List Int)
  | 0 => [[]]
  | i + 1 => (Lay ms k i).flatMap fun plan => ((rgI 0 k.toNat).filter fun d => !conf ms plan d).map fun d => plan ++ [d]
def size (p : List Int) : Int := p.foldl (fun a x => max a (x + 1)) 0
theorem size_snoc (p : List Int) (x : Int) : size (p ++ [x]) = max (size p) (x + 1) := by unfold size; rw [List.foldl_append]; rfl
def Rg (ms : Ms) : Nat → List (List Int)
  | 0 => [[]]
  | i + 1 => (Rg ms i).flatMap fun p => (((rgI 0 (size p).toNat).filter fun d => !conf ms p d).map fun d => p ++ [d]) ++ [p ++ [size p]]
theorem lay_len {ms : Ms} {k : Int} : ∀ (i : Nat) (p : List Int), p ∈ Lay ms k i → p.length = i
  | 0, p, h => by rw [List.mem_singleton.mp h]; rfl
  | i + 1, p, h => by
    obtain ⟨q, hq, h⟩ := List.mem_flatMap.mp h
    obtain ⟨d, _, rfl⟩ := List.mem_map.mp h
    rw [List.length_append, lay_len i q hq]
    rfl
theorem mem_lay {ms : Ms} {k : Int} : ∀ (i : Nat) (p : List Int), p ∈ Lay ms k i ↔ p.length = i ∧ (∀ x ∈ p, 0 ≤ x ∧ x < k) ∧ ∀ a b : Int, 0 ≤ b → b < a → a < p.length → clash ms a b = true → gt p a ≠ gt p b
  | 0, p => by
    constructor
    · intro h
      rw [List.mem_singleton.mp h]
      exact ⟨rfl, fun x hx => (nomatch hx), fun a b h1 h2 h3 => by simp at h3; omega⟩
    · rintro ⟨h, _⟩
      rw [List.eq_nil_of_length_eq_zero h]
      exact List.mem_singleton.mpr rfl
  | i + 1, p => by
    constructor
    · intro h
      obtain ⟨q, hq, h⟩ := List.mem_flatMap.mp h
      obtain ⟨d, hd, rfl⟩ := List.mem_map.mp h
      obtain ⟨hd, hc⟩ := List.mem_filter.mp hd
      obtain ⟨h1, h2, h3⟩ := (mem_lay i q).mp hq
      refine ⟨by rw [List.length_append, h1]; rfl, fun x hx => ?_, fun a b b0 ba al hcl => ?_⟩
      · rcases List.mem_append.mp hx with hx | hx
        · exact h2 x hx
        · rw [List.mem_singleton.mp hx]; exact mem_rg.mp hd
      · rw [List.length_append] at al
        have al : a < (q.length + 1 : Nat) := al
        by_cases ea : a = q.length
        · rw [ea, gt_last, gt_app ⟨b0, by omega⟩]
          intro e
          rw [ea] at hcl
          rw [conf_iff.mpr ⟨b, b0, by omega, hcl, e.symm⟩] at hc
          exact absurd hc (by decide)
        · rw [gt_app ⟨by omega, by omega⟩, gt_app ⟨b0, by omega⟩]
          exact h3 a b b0 ba (by omega) hcl
    · rintro ⟨h1, h2, h3⟩
      rcases List.eq_nil_or_concat p with rfl | ⟨q, d, rfl⟩
      · simp at h1
      · rw [List.concat_eq_append] at h1 h2 h3 ⊢
        rw [List.length_append] at h1
        have h1 : q.length + 1 = i + 1 := h1
        have hl : ((q ++ [d]).length : Int) = q.length + 1 := by rw [List.length_append]; rfl
        refine List.mem_flatMap.mpr ⟨q, (mem_lay i q).mpr ⟨by omega, fun x hx => h2 x (List.mem_append_left _ hx), fun a b b0 ba al hcl => ?_⟩, List.mem_map.mpr ⟨d, List.mem_filter.mpr ⟨mem_rg.mpr (h2 d (List.mem_append_right _ (List.mem_singleton.mpr rfl))), ?_⟩, rfl⟩⟩
        · have := h3 a b b0 ba (by omega) hcl
          rw [gt_app ⟨by omega, by omega⟩, gt_app ⟨b0, by omega⟩] at this
          exact this
        · rw [Bool.not_eq_true', ← Bool.not_eq_true, conf_iff]
          rintro ⟨j, j0, j1, hcl, e⟩
          have := h3 q.length j j0 j1 (by omega) hcl
          rw [gt_last, gt_app ⟨j0, j1⟩] at this
          exact this e.symm
theorem lay_card {ms : Ms} {k : Int} (hk : 0 ≤ k ∧ k ≤ 5) : ∀ i : Nat, (Lay ms k i).length ≤ 5 ^ i
  | 0 => Nat.le_refl _
  | i + 1 => by
    have ih := lay_card (ms := ms) hk i
    show ((Lay ms k i).flatMap _).length ≤ _
    rw [List.length_flatMap]
    have : ∀ l : List (List Int), (l.map fun plan => (((rgI 0 k.toNat).filter fun d => !conf ms plan d).map fun d => plan ++ [d]).length).sum ≤ l.length * 5 := by
      intro l
      induction l with
      | nil => simp
      | cons a l ih =>
        rw [List.map_cons, List.sum_cons, List.length_cons, List.length_map]
        have := List.length_filter_le (fun d => !conf ms a d) (rgI 0 k.toNat)
        rw [rgI_len] at this
        omega
    have := this (Lay ms k i)
    rw [Nat.pow_succ]
    omega
end
end Lw
namespace Lw
open PySem PySem.Spec L2 PL TL
set_option autoImplicit false
noncomputable section
/-! patterns -/
def pd (plan : List Int) : List Int × List Int := plan.foldl (fun s x => (s.1 ++ [(s.2.idxOf x : Int)], if x ∈ s.2 then s.2 else s.2 ++ [x])) ([], [])
def pat (plan : List Int) : List Int := (pd plan).1
def dd (plan : List Int) : List Int := (pd plan).2
theorem pat_snoc (plan : List Int) (d : Int) : pat (plan ++ [d]) = pat plan ++ [((dd plan).idxOf d : Int)] := by unfold pat dd pd; rw [List.foldl_append]; rfl
theorem dd_snoc (plan : List Int) (d : Int) : dd (plan ++ [d]) = if d ∈ dd plan then dd plan else dd plan ++ [d] := by unfold dd pd; rw [List.foldl_append]; rfl
theorem mem_dd (plan : List Int) : ∀ x, x ∈ dd plan ↔ x ∈ plan := by
  refine snoc_ind (P := fun plan => ∀ x, x ∈ dd plan ↔ x ∈ plan) (fun x => Iff.rfl) (fun xs d ih x => ?_) plan
  rw [dd_snoc]
  by_cases h : d ∈ dd xs
  · rw [if_pos h, ih x, List.mem_append, List.mem_singleton]
    exact ⟨.inl, fun z => z.elim id fun e => by rw [e]; exact (ih d).mp h⟩
  · rw [if_neg h, List.mem_append, List.mem_append, ih x]
theorem dd_nodup (plan : List Int) : (dd plan).Nodup := by
  refine snoc_ind (P := fun plan => (dd plan).Nodup) List.nodup_nil (fun xs d ih => ?_) plan
  rw [dd_snoc]
  by_cases h : d ∈ dd xs
  · rw [if_pos h]; exact ih
  · rw [if_neg h, List.nodup_append]
    exact ⟨ih, by simp, fun a ha b hb e => h (by rw [List.mem_singleton.mp hb] at e; rw [← e]; exact ha)⟩
theorem pat_len (plan : List Int) : (pat plan).length = plan.length := by
  refine snoc_ind (P := fun plan => (pat plan).length = plan.length) rfl (fun xs d ih => ?_) plan
  rw [pat_snoc, List.length_append, List.length_append, ih]
  rfl
theorem pat_size (plan : List Int) : size (pat plan) = (dd plan).length := by
  refine snoc_ind (P := fun plan => size (pat plan) = (dd plan).length) rfl (fun xs d ih => ?_) plan
  rw [pat_snoc, size_snoc, dd_snoc, ih]
  by_cases h : d ∈ dd xs
  · rw [if_pos h]
    have := List.idxOf_lt_length_iff.mpr h
    omega
  · rw [if_neg h, List.idxOf_eq_length h, List.length_append, List.length_singleton]
    omega
theorem pat_gt (plan : List Int) : ∀ j : Int, 0 ≤ j → j < plan.length → gt (pat plan) j = ((dd plan).idxOf (gt plan j) : Int) := by
  refine snoc_ind (P := fun plan => ∀ j : Int, 0 ≤ j → j < plan.length → gt (pat plan) j = ((dd plan).idxOf (gt plan j) : Int)) (fun j h1 h2 => by simp at h2; omega) (fun xs d ih j j0 j1 => ?_) plan
  rw [pat_snoc, dd_snoc]
  rw [List.length_append] at j1
  have j1 : j < (xs.length + 1 : Nat) := j1
  have hp := pat_len xs
  by_cases e : j = xs.length
  · rw [e]
    have e2 : gt (pat xs ++ [((dd xs).idxOf d : Int)]) xs.length = ((dd xs).idxOf d : Int) := by rw [← hp, gt_last]
    rw [e2, gt_last]
    by_cases h : d ∈ dd xs
    · rw [if_pos h]
    · rw [if_neg h, List.idxOf_append, if_neg h, List.idxOf_eq_length h]
      simp
  · rw [gt_app ⟨j0, by omega⟩, gt_app ⟨j0, by omega⟩, ih j j0 (by omega)]
    by_cases h : d ∈ dd xs
    · rw [if_pos h]
    · rw [if_neg h, List.idxOf_append, if_pos ((mem_dd xs _).mpr (gt_mem ⟨j0, by omega⟩))]
theorem idx_inj {S : List Int} {a b : Int} (ha : a ∈ S) (h : S.idxOf a = S.idxOf b) : a = b := by
  have h1 := List.idxOf_lt_length_iff.mpr ha
  have h2 : S.idxOf b < S.length := by omega
  have e1 := List.getElem_idxOf h1
  have e2 := List.getElem_idxOf h2
  rw [← e1, ← e2]
  simp only [h]
theorem pat_conf (ms : Ms) (plan : List Int) (d : Int) : conf ms (pat plan) ((dd plan).idxOf d : Int) = conf ms plan d := by
  rw [Bool.eq_iff_iff, conf_iff, conf_iff, pat_len]
  constructor
  · rintro ⟨j, j0, j1, h, e⟩
    refine ⟨j, j0, j1, h, ?_⟩
    rw [pat_gt plan j j0 j1] at e
    exact idx_inj ((mem_dd plan _).mpr (gt_mem ⟨j0, j1⟩)) (by omega)
  · rintro ⟨j, j0, j1, h, e⟩
    exact ⟨j, j0, j1, h, by rw [pat_gt plan j j0 j1, e]⟩
theorem gt_size (p : List Int) : ∀ x ∈ p, x < size p := by
  refine snoc_ind (P := fun p => ∀ x ∈ p, x < size p) (fun x h => nomatch h) (fun xs d ih x hx => ?_) p
  rw [size_snoc]
  rcases List.mem_append.mp hx with hx | hx
  · have := ih x hx; omega
  · rw [List.mem_singleton.mp hx]; omega
theorem conf_new (ms : Ms) (p : List Int) : conf ms p (size p) = false := by
  rw [← Bool.not_eq_true, conf_iff]
  rintro ⟨j, j0, j1, _, e⟩
  have := gt_size p _ (gt_mem ⟨j0, j1⟩)
  omega
theorem size_nn (p : List Int) : 0 ≤ size p := by
  refine snoc_ind (P := fun p => 0 ≤ size p) (Int.le_refl 0) (fun xs d ih => ?_) p
  rw [size_snoc]
  omega
def fall (k : Int) : Nat → Int
  | 0 => 1
  | n + 1 => fall k n * (k - n)
/-- what comes of a pattern, summed -/
def stepW (ms : Ms) (k : Int) (g : List Int → Int) (p : List Int) : Int := ((rgI 0 (size p).toNat).map fun n => if conf ms p n = true then 0 else g (p ++ [n])).sum + (k - size p) * g (p ++ [size p])
theorem lay_weights {ms : Ms} {k : Int} (hk : 0 ≤ k) : ∀ (i : Nat) (g : List Int → Int), ((Lay ms k i).map fun plan => g (pat plan)).sum = ((Rg ms i).map fun p => fall k (size p).toNat * g p).sum
  | 0, g => by
    show g [] + 0 = 1 * g [] + 0
    omega
  | i + 1, g => by
    have e1 : ((Lay ms k (i + 1)).map fun plan => g (pat plan)).sum = ((Lay ms k i).map fun plan => stepW ms k g (pat plan)).sum := by
      show (((Lay ms k i).flatMap _).map _).sum = _
      rw [sum_flat]
      refine sum_congr fun plan hp => ?_
      rw [List.map_map]
      show (((rgI 0 k.toNat).filter fun d => !conf ms plan d).map fun d => g (pat (plan ++ [d]))).sum = _
      rw [sum_filter]
      have hr := ((mem_lay i plan).mp hp).2.1
      have := sum_idx hk (dd_nodup plan) (fun x hx => hr x ((mem_dd plan x).mp hx)) fun n => if conf ms (pat plan) n = true then 0 else g (pat plan ++ [n])
      unfold stepW
      rw [pat_size, Int.toNat_natCast]
      have hnew : conf ms (pat plan) ((dd plan).length : Int) = false := by rw [← pat_size]; exact conf_new ms _
      simp only [hnew, Bool.false_eq_true, if_false] at this
      rw [← this]
      refine sum_congr fun d _ => ?_
      rw [pat_conf, pat_snoc]
      cases conf ms plan d <;> rfl
    have e2 : ((Rg ms (i + 1)).map fun p => fall k (size p).toNat * g p).sum = ((Rg ms i).map fun p => fall k (size p).toNat * stepW ms k g p).sum := by
      show (((Rg ms i).flatMap _).map _).sum = _
      rw [sum_flat]
      refine sum_congr fun p _ => ?_
      have hz := size_nn p
      rw [List.map_append, List.sum_append, List.map_map]
      show (((rgI 0 (size p).toNat).filter fun d => !conf ms p d).map fun d => fall k (size (p ++ [d])).toNat * g (p ++ [d])).sum + (fall k (size (p ++ [size p])).toNat * g (p ++ [size p]) + 0) = _
      rw [sum_filter]
      unfold stepW
      rw [Int.mul_add, ← sum_mul]
      congr 1
      · refine sum_congr fun d hd => ?_
        have := mem_rg.mp hd
        rw [size_snoc, show max (size p) (d + 1) = size p by omega]
        cases conf ms p d
        · rfl
        · show 0 = _ * 0; rw [Int.mul_zero]
      · rw [size_snoc, show max (size p) (size p + 1) = size p + 1 by omega, show (size p + 1).toNat = (size p).toNat + 1 by omega]
        show fall k (size p).toNat * (k - ((size p).toNat : Int)) * _ + 0 = _
        rw [show (((size p).toNat : Nat) : Int) = size p by omega, Int.add_zero, Int.mul_assoc]
    rw [e1, e2]
    exact lay_weights hk i (stepW ms k g)
theorem lay_count {ms : Ms} {k : Int} (hk : 0 ≤ k) (i : Nat) : ((Lay ms k i).length : Int) = ((Rg ms i).map fun p => fall k (size p).toNat).sum := by
  have h := lay_weights (ms := ms) hk i fun _ => 1
  rw [sum_const] at h
  simp only [Int.mul_one] at h
  exact h
end
end Lw
namespace Lw
open PySem PySem.Spec L2 PL TL
set_option autoImplicit false
noncomputable section
/-! plans whose days are used in order: they are the patterns -/
def InO (p : List Int) : Prop := ∀ y : Int, 0 ≤ y → y < p.length → 0 < gt p y → gt p y - 1 ∈ p.take y.toNat
def inB (p : List Int) : Bool := sealB (InO p)
theorem ino_snoc {p : List Int} {d : Int} : InO (p ++ [d]) ↔ InO p ∧ (0 < d → d - 1 ∈ p) := by
  constructor
  · intro h
    refine ⟨fun y y0 y1 hy => ?_, fun hd => ?_⟩
    · have := h y y0 (by rw [List.length_append]; omega) (by rw [gt_app ⟨y0, y1⟩]; exact hy)
      rw [gt_app ⟨y0, y1⟩, List.take_append_of_le_length (by omega)] at this
      exact this
    · have := h p.length (by omega) (by rw [List.length_append]; show (p.length : Int) < (p.length + 1 : Nat); omega) (by rw [gt_last]; exact hd)
      rw [gt_last, Int.toNat_natCast, List.take_append_of_le_length (Nat.le_refl _), List.take_length] at this
      exact this
  · rintro ⟨h1, h2⟩ y y0 y1 hy
    rw [List.length_append] at y1
    have y1 : y < (p.length + 1 : Nat) := y1
    by_cases e : y = p.length
    · rw [e, gt_last] at hy ⊢
      rw [Int.toNat_natCast, List.take_append_of_le_length (Nat.le_refl _), List.take_length]
      exact h2 hy
    · rw [gt_app ⟨y0, by omega⟩] at hy ⊢
      rw [List.take_append_of_le_length (by omega)]
      exact h1 y y0 (by omega) hy
theorem ino_mem {p : List Int} (h : InO p) (hn : ∀ x ∈ p, 0 ≤ x) : (∀ x, x ∈ p ↔ 0 ≤ x ∧ x < size p) ∧ size p ≤ p.length := by
  revert h hn
  refine snoc_ind (P := fun p => InO p → (∀ x ∈ p, 0 ≤ x) → (∀ x, x ∈ p ↔ 0 ≤ x ∧ x < size p) ∧ size p ≤ p.length) ?_ ?_ p
  · intro _ _
    exact ⟨fun x => ⟨fun h => (nomatch h), fun h => by have : size [] = 0 := rfl; omega⟩, Int.le_refl 0⟩
  · intro xs d ih h hn
    obtain ⟨h1, h2⟩ := ino_snoc.mp h
    obtain ⟨i1, i2⟩ := ih h1 fun x hx => hn x (List.mem_append_left _ hx)
    have hd := hn d (List.mem_append_right _ (List.mem_singleton.mpr rfl))
    have hz := size_nn xs
    have hds : d ≤ size xs := by
      by_cases h0 : 0 < d
      · have := ((i1 _).mp (h2 h0)).2; omega
      · omega
    rw [size_snoc, List.length_append]
    refine ⟨fun x => ?_, by show _ ≤ ((xs.length + 1 : Nat) : Int); omega⟩
    rw [List.mem_append, List.mem_singleton, i1]
    omega
theorem filter_flat {α β : Type} (p : β → Bool) (h : α → List β) (l : List α) : (l.flatMap h).filter p = l.flatMap fun a => (h a).filter p := by
  induction l with
  | nil => rfl
  | cons a l ih => rw [List.flatMap_cons, List.filter_append, ih]; rfl
theorem flat_if {α β : Type} (p : α → Bool) (h : α → List β) (l : List α) : (l.flatMap fun a => if p a = true then h a else []) = (l.filter p).flatMap h := by
  induction l with
  | nil => rfl
  | cons a l ih =>
    rw [List.flatMap_cons, List.filter_cons, ih]
    by_cases hp : p a = true
    · rw [if_pos hp, if_pos hp, List.flatMap_cons]
    · rw [if_neg hp, if_neg hp, List.nil_append]
theorem flat_congr {α β : Type} {f g : α → List β} {l : List α} (h : ∀ a ∈ l, f a = g a) : l.flatMap f = l.flatMap g := by
  rw [List.flatMap_def, List.flatMap_def, List.map_congr_left h]
theorem rgI_split {a b : Nat} (h : a < b) : rgI 0 b = rgI 0 a ++ (a : Int) :: rgI (a + 1) (b - a - 1) := by
  refine List.ext_getElem? fun i => ?_
  have g : ∀ (x : Int) (n i : Nat), (rgI x n)[i]? = if i < n then some (x + i) else none := fun x n i => by
    unfold rgI
    rw [List.getElem?_map]
    by_cases h : i < n
    · rw [List.getElem?_range h, if_pos h]; rfl
    · rw [List.getElem?_eq_none (by rw [List.length_range]; omega), if_neg h]; rfl
  rw [g]
  by_cases h1 : i < a
  · rw [List.getElem?_append_left (by rw [rgI_len]; exact h1), g, if_pos h1, if_pos (by omega)]
  · rw [List.getElem?_append_right (by rw [rgI_len]; omega), rgI_len]
    by_cases h2 : i = a
    · rw [h2, if_pos h, Nat.sub_self, List.getElem?_cons_zero]
      congr 1
      omega
    · obtain ⟨j, hj⟩ : ∃ j, i - a = j + 1 := ⟨i - a - 1, by omega⟩
      rw [hj, List.getElem?_cons_succ, g]
      by_cases h3 : i < b
      · rw [if_pos h3, if_pos (by omega)]
        congr 1
        omega
      · rw [if_neg h3, if_neg (by omega)]
theorem lay_ino {ms : Ms} {k : Int} : ∀ i : Nat, (i : Int) ≤ k → (Lay ms k i).filter inB = Rg ms i
  | 0, _ => by
    show ([[]] : List (List Int)).filter inB = [[]]
    have : inB [] = true := sealB_iff.mpr fun y y0 y1 => by simp at y1; omega
    rw [List.filter_cons, this]
    rfl
  | i + 1, hi => by
    show ((Lay ms k i).flatMap _).filter inB = _
    rw [filter_flat]
    show _ = (Rg ms i).flatMap _
    rw [← lay_ino (k := k) i (by omega), ← flat_if]
    refine flat_congr fun plan hp => ?_
    obtain ⟨h1, h2, _⟩ := (mem_lay i plan).mp hp
    rw [List.filter_map, List.filter_filter]
    by_cases hb : inB plan = true
    · rw [if_pos hb]
      have ho := sealB_iff.mp hb
      obtain ⟨m1, m2⟩ := ino_mem ho fun x hx => (h2 x hx).1
      have hz := size_nn plan
      have e : ((rgI 0 k.toNat).filter fun a => (inB ∘ fun d => plan ++ [d]) a && !conf ms plan a) = (rgI 0 k.toNat).filter fun d => decide (d ≤ size plan) && !conf ms plan d := by
        refine List.filter_congr fun d hd => ?_
        congr 1
        show inB (plan ++ [d]) = _
        rw [Bool.eq_iff_iff, decide_eq_true_iff]
        unfold inB
        rw [sealB_iff, ino_snoc, m1]
        have := mem_rg.mp hd
        constructor
        · rintro ⟨_, h⟩
          by_cases h0 : 0 < d
          · have := h h0; omega
          · omega
        · intro h
          exact ⟨ho, fun h0 => by omega⟩
      rw [e, rgI_split (a := (size plan).toNat) (b := k.toNat) (by omega), List.filter_append, List.filter_cons, List.map_append]
      congr 1
      · congr 1
        refine List.filter_congr fun d hd => ?_
        have := mem_rg.mp hd
        rw [decide_eq_true (by omega), Bool.true_and]
      · have hs : (((size plan).toNat : Nat) : Int) = size plan := by omega
        rw [hs, conf_new, decide_eq_true (Int.le_refl _), if_pos (by rfl)]
        have : ((rgI (size plan + 1) (k.toNat - (size plan).toNat - 1)).filter fun d => decide (d ≤ size plan) && !conf ms plan d) = [] := by
          refine List.filter_eq_nil_iff.mpr fun d hd => ?_
          unfold rgI at hd
          obtain ⟨j, _, rfl⟩ := List.mem_map.mp hd
          rw [decide_eq_false (by omega), Bool.false_and]
          exact Bool.false_ne_true
        rw [this]
        rfl
    · rw [if_neg hb]
      have : ((rgI 0 k.toNat).filter fun a => (inB ∘ fun d => plan ++ [d]) a && !conf ms plan a) = [] := by
        refine List.filter_eq_nil_iff.mpr fun d hd h => hb ?_
        rw [Bool.and_eq_true] at h
        have h : inB (plan ++ [d]) = true := h.1
        exact sealB_iff.mpr (ino_snoc.mp (sealB_iff.mp h)).1
      rw [this]
      rfl
theorem rg_ino {ms : Ms} {i : Nat} {p : List Int} (h : p ∈ Rg ms i) : p.length = i ∧ (∀ x, x ∈ p ↔ 0 ≤ x ∧ x < size p) ∧ size p ≤ i := by
  rw [← lay_ino (k := i) i (Int.le_refl _)] at h
  obtain ⟨h, hb⟩ := List.mem_filter.mp h
  obtain ⟨h1, h2, _⟩ := (mem_lay i p).mp h
  obtain ⟨m1, m2⟩ := ino_mem (sealB_iff.mp hb) fun x hx => (h2 x hx).1
  exact ⟨h1, m1, by omega⟩
def fct : Nat → Nat
  | 0 => 1
  | n + 1 => (n + 1) * fct n
theorem rg_card (ms : Ms) : ∀ i : Nat, (Rg ms i).length ≤ fct i
  | 0 => Nat.le_refl _
  | i + 1 => by
    have ih := rg_card ms i
    show ((Rg ms i).flatMap _).length ≤ (i + 1) * fct i
    rw [List.length_flatMap]
    have : ∀ l : List (List Int), (∀ p ∈ l, size p ≤ i) → (l.map fun p => ((((rgI 0 (size p).toNat).filter fun d => !conf ms p d).map fun d => p ++ [d]) ++ [p ++ [size p]]).length).sum ≤ (i + 1) * l.length := by
      intro l hl
      induction l with
      | nil => simp
      | cons a l ih =>
        rw [List.map_cons, List.sum_cons, List.length_cons, List.length_append, List.length_map]
        have := List.length_filter_le (fun d => !conf ms a d) (rgI 0 (size a).toNat)
        rw [rgI_len] at this
        have h2 := hl a List.mem_cons_self
        have h3 := ih fun p hp => hl p (List.mem_cons_of_mem _ hp)
        rw [Nat.mul_add, Nat.mul_one]
        simp only [List.length_singleton]
        omega
    have := this (Rg ms i) fun p hp => (rg_ino hp).2.2
    exact Nat.le_trans this (Nat.mul_le_mul_left _ ih)
end
end Lw
namespace Lw
open PySem PySem.Spec L2 PL TL
set_option autoImplicit false
noncomputable section
/-! groupings -/
theorem F2.append {α β : Type} {R : α → β → Prop} {xs xs' : List α} {ys ys' : List β} (h : F2 R xs ys) (h' : F2 R xs' ys') : F2 R (xs ++ xs') (ys ++ ys') := by
  induction h with
  | nil => exact h'
  | cons h _ ih => exact .cons h ih
theorem F2.flat {α β γ δ : Type} {R : α → β → Prop} {R' : γ → δ → Prop} {f : α → List γ} {g : β → List δ} {xs : List α} {ys : List β} (h : F2 R xs ys) (hf : ∀ a b, R a b → F2 R' (f a) (g b)) : F2 R' (xs.flatMap f) (ys.flatMap g) := by
  induction h with
  | nil => exact .nil
  | cons h _ ih => rw [List.flatMap_cons, List.flatMap_cons]; exact (hf _ _ h).append ih
theorem F2.maps {α β γ : Type} {R : β → γ → Prop} {f : α → β} {g : α → γ} {l : List α} (h : ∀ a ∈ l, R (f a) (g a)) : F2 R (l.map f) (l.map g) := by
  induction l with
  | nil => exact .nil
  | cons a l ih => exact .cons (h a List.mem_cons_self) (ih fun b hb => h b (List.mem_cons_of_mem _ hb))
theorem F2.mapEq {α β γ : Type} {R : α → β → Prop} {f : α → γ} {g : β → γ} {xs : List α} {ys : List β} (h : F2 R xs ys) (hf : ∀ a b, R a b → f a = g b) : xs.map f = ys.map g := by
  induction h with
  | nil => rfl
  | cons h _ ih => rw [List.map_cons, List.map_cons, hf _ _ h, ih]
def gs (sets : List (List Int)) (n : Int) : List Int := (sets[n.toNat]?).getD []
theorem atI_gs {sets : List (List Int)} {n : Int} (h : 0 ≤ n ∧ n < sets.length) : atI sets n = some (gs sets n) := by
  rw [atI_nn h]
  unfold gs
  rw [List.getElem?_eq_getElem (by omega)]
  rfl
def okS (ms : Ms) (i : Int) (s : List Int) : Bool := s.all fun j => !clash ms i j
def putS (sets : List (List Int)) (n i : Int) : List (List Int) := sets.take n.toNat ++ [gs sets n ++ [i]] ++ sets.drop (n.toNat + 1)
def Lv (ms : Ms) : Nat → List (List (List Int))
  | 0 => [[]]
  | i + 1 => (Lv ms i).flatMap fun sets => (((rgI 0 sets.length).filter fun n => okS ms i (gs sets n)).map fun n => putS sets n i) ++ [sets ++ [[(i : Int)]]]
def RS (i : Nat) (sets : List (List Int)) (p : List Int) : Prop := p.length = i ∧ (sets.length : Int) = size p ∧ (∀ x ∈ p, 0 ≤ x) ∧ ∀ n : Int, 0 ≤ n → n < size p → ∀ j : Int, j ∈ gs sets n ↔ 0 ≤ j ∧ j < i ∧ gt p j = n
theorem gs_put {sets : List (List Int)} {n i m : Int} (hn : 0 ≤ n ∧ n < sets.length) (hm : 0 ≤ m ∧ m < sets.length) : gs (putS sets n i) m = if m = n then gs sets n ++ [i] else gs sets m := by
  unfold putS gs
  by_cases h : m = n
  · rw [if_pos h, h, List.append_assoc, List.getElem?_append_right (by rw [List.length_take]; omega)]
    have : n.toNat - (sets.take n.toNat).length = 0 := by rw [List.length_take]; omega
    rw [this]
    rfl
  · rw [if_neg h]
    congr 1
    by_cases h2 : m < n
    · rw [List.append_assoc, List.getElem?_append_left (by rw [List.length_take]; omega), List.getElem?_take, if_pos (by omega)]
    · rw [List.getElem?_append_right (by rw [List.length_append, List.length_take, List.length_singleton]; omega), List.getElem?_drop, List.length_append, List.length_take, List.length_singleton]
      congr 1
      omega
theorem put_len {sets : List (List Int)} {n i : Int} (hn : 0 ≤ n ∧ n < sets.length) : (putS sets n i).length = sets.length := by
  unfold putS
  rw [List.length_append, List.length_append, List.length_take, List.length_drop, List.length_singleton]
  omega
theorem lv_rg (ms : Ms) : ∀ i : Nat, F2 (RS i) (Lv ms i) (Rg ms i)
  | 0 => .cons ⟨rfl, rfl, fun x h => (nomatch h), fun n n0 n1 => by have : size [] = 0 := rfl; omega⟩ .nil
  | i + 1 => by
    refine (lv_rg ms i).flat fun sets p h => ?_
    obtain ⟨h1, h2, h0, h3⟩ := h
    have hz := size_nn p
    have e : sets.length = (size p).toNat := by omega
    have hc : ((rgI 0 sets.length).filter fun n => okS ms i (gs sets n)) = (rgI 0 (size p).toNat).filter fun d => !conf ms p d := by
      rw [e]
      refine List.filter_congr fun n hn => ?_
      obtain ⟨n0, n1⟩ := mem_rg.mp hn
      rw [Bool.eq_iff_iff, Bool.not_eq_true', ← Bool.not_eq_true, conf_iff]
      unfold okS
      rw [List.all_eq_true]
      constructor
      · rintro h ⟨j, j0, j1, hcl, hg⟩
        have := h j ((h3 n n0 n1 j).mpr ⟨j0, by omega, hg⟩)
        rw [h1] at hcl
        rw [hcl] at this
        exact absurd this (by decide)
      · intro h j hj
        obtain ⟨j0, j1, hg⟩ := (h3 n n0 n1 j).mp hj
        cases hcl : clash ms i j with
        | false => rfl
        | true => exact absurd ⟨j, j0, by omega, by rw [h1]; exact hcl, hg⟩ h
    rw [hc]
    refine F2.append (F2.maps fun n hn => ?_) (.cons ?_ .nil)
    · obtain ⟨n0, n1⟩ := mem_rg.mp (List.mem_filter.mp hn).1
      have hn' : 0 ≤ n ∧ n < sets.length := ⟨n0, by omega⟩
      have hs : size (p ++ [n]) = size p := by rw [size_snoc]; omega
      refine ⟨by rw [List.length_append, h1]; rfl, by rw [put_len hn', hs]; exact h2, fun x hx => ?_, fun m m0 m1 j => ?_⟩
      · rcases List.mem_append.mp hx with hx | hx
        · exact h0 x hx
        · rw [List.mem_singleton.mp hx]; exact n0
      · rw [hs] at m1
        rw [gs_put hn' ⟨m0, by omega⟩]
        by_cases em : m = n
        · rw [if_pos em, List.mem_append, List.mem_singleton, h3 n n0 n1, em]
          constructor
          · rintro (⟨a, b, c⟩ | rfl)
            · exact ⟨a, by omega, by rw [gt_app ⟨a, by omega⟩]; exact c⟩
            · exact ⟨by omega, by omega, by rw [← h1, gt_last]⟩
          · rintro ⟨a, b, c⟩
            by_cases ej : j = i
            · exact .inr ej
            · rw [gt_app ⟨a, by omega⟩] at c
              exact .inl ⟨a, by omega, c⟩
        · rw [if_neg em, h3 m m0 m1]
          constructor
          · rintro ⟨a, b, c⟩
            exact ⟨a, by omega, by rw [gt_app ⟨a, by omega⟩]; exact c⟩
          · rintro ⟨a, b, c⟩
            by_cases ej : j = i
            · rw [ej, ← h1, gt_last] at c
              exact absurd c.symm em
            · rw [gt_app ⟨a, by omega⟩] at c
              exact ⟨a, by omega, c⟩
    · have hs : size (p ++ [size p]) = size p + 1 := by rw [size_snoc]; omega
      refine ⟨by rw [List.length_append, h1]; rfl, by rw [List.length_append, hs]; show ((sets.length + 1 : Nat) : Int) = _; omega, fun x hx => ?_, fun m m0 m1 j => ?_⟩
      · rcases List.mem_append.mp hx with hx | hx
        · exact h0 x hx
        · rw [List.mem_singleton.mp hx]; exact hz
      · rw [hs] at m1
        by_cases em : m = size p
        · have hg : gs (sets ++ [[(i : Int)]]) m = [(i : Int)] := by
            unfold gs
            rw [List.getElem?_append_right (by omega), show m.toNat - sets.length = 0 by omega]
            rfl
          rw [hg, List.mem_singleton, em]
          constructor
          · rintro rfl
            exact ⟨by omega, by omega, by rw [← h1, gt_last]⟩
          · rintro ⟨a, b, c⟩
            by_cases ej : j = i
            · exact ej
            · rw [gt_app ⟨a, by omega⟩] at c
              have := gt_size p _ (gt_mem (xs := p) ⟨a, by omega⟩)
              omega
        · have hg : gs (sets ++ [[(i : Int)]]) m = gs sets m := by
            unfold gs
            rw [List.getElem?_append_left (by omega)]
          rw [hg, h3 m m0 (by omega)]
          constructor
          · rintro ⟨a, b, c⟩
            exact ⟨a, by omega, by rw [gt_app ⟨a, by omega⟩]; exact c⟩
          · rintro ⟨a, b, c⟩
            by_cases ej : j = i
            · rw [ej, ← h1, gt_last] at c
              omega
            · rw [gt_app ⟨a, by omega⟩] at c
              exact ⟨a, by omega, c⟩
def szs (ms : Ms) (i : Nat) : List Int := (Rg ms i).map size
theorem lv_sizes (ms : Ms) (i : Nat) : (Lv ms i).map (fun s => len s) = szs ms i := (lv_rg ms i).mapEq fun _ _ h => h.2.1
theorem lv_card (ms : Ms) (i : Nat) : (Lv ms i).length ≤ fct i := by
  have := congrArg List.length (lv_sizes ms i)
  unfold szs at this
  rw [List.length_map, List.length_map] at this
  rw [this]
  exact rg_card ms i
theorem lv_mem {ms : Ms} {i : Nat} {s : List (List Int)} (h : s ∈ Lv ms i) : s.length ≤ i ∧ ∀ n : Int, 0 ≤ n → n < s.length → ∀ j ∈ gs s n, 0 ≤ j ∧ j < i := by
  have : ∀ {xs : List (List (List Int))} {ys : List (List Int)}, F2 (RS i) xs ys → (∀ p ∈ ys, size p ≤ i) → s ∈ xs → s.length ≤ i ∧ ∀ n : Int, 0 ≤ n → n < s.length → ∀ j ∈ gs s n, 0 ≤ j ∧ j < i := by
    intro xs ys h hy hs
    induction h with
    | nil => exact nomatch hs
    | cons h _ ih =>
      rcases List.mem_cons.mp hs with rfl | hs
      · have h1 := hy _ List.mem_cons_self
        have h2 := h.2.1
        refine ⟨by omega, fun n n0 n1 j hj => ?_⟩
        have := (h.2.2.2 n n0 (by omega) j).mp hj
        exact ⟨this.1, this.2.1⟩
      · exact ih (fun p hp => hy p (List.mem_cons_of_mem _ hp)) hs
  exact this (lv_rg ms i) (fun p hp => (rg_ino hp).2.2) h
end
end Lw
namespace Lw
open PySem PySem.Spec L2 PL TL
set_option autoImplicit false
noncomputable section
/-! the days that may be tried -/
abbrev Days := List (Int × Int)
def Okd (ms : Ms) (k : Int) (ds : Days) : Prop := (ds.map (·.1)).Nodup ∧ ∀ p ∈ ds, Inr ms p.1 ∧ 0 ≤ p.2 ∧ p.2 < k
def vals (ds : Days) : List Int := ds.map (·.2)
def freshB (ds : Days) (k d : Int) : Bool := memB d (cutD ((rgI 0 k.toNat).filter fun e => !memB e (vals ds)) none (some 1))
def tryB (ms : Ms) (ds : Days) (i k d : Int) : Bool := (ds.all fun p => decide (p.1 = i) || !clash ms i p.1 || !decide (p.2 = d)) && (memB d (vals ds) || freshB ds k d)
def tries (ms : Ms) (ds : Days) (i k : Int) : List Int := (rgI 0 k.toNat).filter (tryB ms ds i k)
theorem dgetL_mem {ds : Days} (h : (ds.map (·.1)).Nodup) {p : Int × Int} (hp : p ∈ ds) : dgetL ds p.1 = some p.2 := by
  induction ds with
  | nil => exact nomatch hp
  | cons q ds ih =>
    rw [List.map_cons, List.nodup_cons] at h
    unfold dgetL
    rw [List.find?_cons]
    rcases List.mem_cons.mp hp with rfl | hp
    · simp
    · have : q.1 ≠ p.1 := fun z => h.1 (z ▸ List.mem_map_of_mem hp)
      rw [decide_eq_false this]
      exact ih h.2 hp
theorem dhas_iff {ds : Days} {i : Int} : dhas ds i = true ↔ ∃ p ∈ ds, p.1 = i := by
  unfold dhas
  rw [List.any_eq_true]
  simp only [decide_eq_true_iff]
theorem dgetL_some {ds : Days} {i d : Int} (h : dgetL ds i = some d) : (i, d) ∈ ds := by
  unfold dgetL at h
  obtain ⟨p, h1, rfl⟩ := Option.map_eq_some_iff.mp h
  have h2 := List.mem_of_find?_eq_some h1
  have h3 := List.find?_some h1
  have : p.1 = i := by simpa using h3
  rw [← this]
  exact h2
theorem dhas_get2 {ds : Days} {i : Int} (h : dhas ds i = true) : ∃ d, dgetL ds i = some d := by
  have := dhas_get ds i
  rw [h] at this
  exact Option.isSome_iff_exists.mp this
theorem dput_new {ds : Days} {i d : Int} (h : dhas ds i = false) : dput ds i d = ds ++ [(i, d)] := by
  unfold dput
  rw [h]
  rfl
theorem vals_put (ds : Days) (i d : Int) : vals (ds ++ [(i, d)]) = vals ds ++ [d] := by unfold vals; rw [List.map_append]; rfl
theorem Okd.put {ms : Ms} {k i d : Int} {ds : Days} (h : Okd ms k ds) (hi : Inr ms i) (hd : 0 ≤ d ∧ d < k) (hn : dhas ds i = false) : Okd ms k (ds ++ [(i, d)]) := by
  refine ⟨?_, fun p hp => ?_⟩
  · rw [List.map_append, List.nodup_append]
    refine ⟨h.1, by simp, fun x hx y hy e => ?_⟩
    rw [List.map_cons, List.map_nil, List.mem_singleton] at hy
    obtain ⟨p, hp, rfl⟩ := List.mem_map.mp hx
    have : dhas ds i = true := dhas_iff.mpr ⟨p, hp, by rw [e, hy]⟩
    rw [hn] at this
    exact absurd this (by decide)
  · rcases List.mem_append.mp hp with hp | hp
    · exact h.2 p hp
    · rw [List.mem_singleton.mp hp]; exact ⟨hi, hd⟩
theorem t_clash_eq {m : Int} {ms : Ms} {i j : Int} (hi : Inr ms i) (hj : Inr ms j) : t_clash (m, ms) i j = some (clash ms i j) := by
  unfold t_clash clash cl
  simp only [atI_mt hi, atI_mt hj, Option.bind_some]
  cases inP (mt ms i).1 (mt ms j) <;> rfl
theorem clashing_eq {m : Int} {ms : Ms} {i : Int} (hm : ms.length ≤ 1000) (hi : Inr ms i) : t_clashing (m, ms) i = some ((rgI 0 ms.length).filter fun j => !decide (j = i) && clash ms i j) := by
  unfold t_clashing
  rw [rg_eq (by rw [len_eq]; show _ ≤ ((ms.length : Nat) : Int) ∧ ((ms.length : Nat) : Int) ≤ _; omega), Option.bind_some, lcM_eq (p := fun j => !decide (j = i) && clash ms i j) (g := fun j => j)]
  · rw [List.map_id']
    rfl
  · intro j hj
    obtain ⟨j0, j1⟩ := mem_rg.mp hj
    by_cases e : j = i
    · rw [decide_eq_true e]; rfl
    · rw [decide_eq_false e, t_clash_eq hi ⟨j0, j1⟩]; rfl
  · exact fun _ _ _ => rfl
theorem memB_congr {α : Type} [DecidableEq α] {a : α} {xs ys : List α} (h : a ∈ xs ↔ a ∈ ys) : memB a xs = memB a ys := by
  rw [Bool.eq_iff_iff, memB_iff, memB_iff, h]
theorem taken_iff {ms : Ms} {k : Int} {ds : Days} {i d : Int} (hd : Okd ms k ds) : (ds.all fun p => decide (p.1 = i) || !clash ms i p.1 || !decide (p.2 = d)) = true ↔ ∀ p ∈ ds, p.1 ≠ i → clash ms i p.1 = true → p.2 ≠ d := by
  rw [List.all_eq_true]
  refine ⟨fun h p hp h1 h2 h3 => ?_, fun h p hp => ?_⟩
  · have := h p hp
    rw [decide_eq_false h1, h2, decide_eq_true h3] at this
    exact absurd this (by decide)
  · by_cases h1 : p.1 = i
    · rw [decide_eq_true h1]; rfl
    · cases h2 : clash ms i p.1 with
      | false => rw [Bool.not_false, Bool.or_true]; rfl
      | true => rw [decide_eq_false (h p hp h1 h2)]; simp
theorem days_left_eq {m : Int} {ms : Ms} {k : Int} {ds : Days} {i : Int} (hm : ms.length ≤ 1000) (hk : 0 ≤ k ∧ k ≤ 1000) (hi : Inr ms i) (hd : Okd ms k ds) :
    t_days_left (m, ms) ds i k = some ((rgI 0 k.toNat).filter fun d => ds.all fun p => decide (p.1 = i) || !clash ms i p.1 || !decide (p.2 = d)) := by
  unfold t_days_left
  rw [clashing_eq hm hi, Option.bind_some, lcM_eq (p := fun j => dhas ds j) (g := fun j => (dgetL ds j).getD 0) (fun _ _ => rfl), Option.bind_some, rg_eq (by omega), Option.bind_some, List.map_id']
  · refine congrArg some (List.filter_congr fun d hd' => ?_)
    rw [Bool.eq_iff_iff, taken_iff hd, Bool.not_eq_true', ← Bool.not_eq_true, memB_iff]
    constructor
    · intro h p hp h1 h2 h3
      refine h (List.mem_map.mpr ⟨p.1, List.mem_filter.mpr ⟨List.mem_filter.mpr ⟨?_, ?_⟩, dhas_iff.mpr ⟨p, hp, rfl⟩⟩, ?_⟩)
      · exact mem_rg.mpr (hd.2 p hp).1
      · rw [decide_eq_false h1, h2]; rfl
      · rw [dgetL_mem hd.1 hp]; exact h3
    · intro h hmem
      obtain ⟨j, hj, e⟩ := List.mem_map.mp hmem
      obtain ⟨hj, h2⟩ := List.mem_filter.mp hj
      obtain ⟨hj, h3⟩ := List.mem_filter.mp hj
      obtain ⟨d', hd'⟩ := dhas_get2 h2
      rw [hd'] at e
      rw [Bool.and_eq_true, Bool.not_eq_true', decide_eq_false_iff_not] at h3
      exact h (j, d') (dgetL_some hd') h3.1 h3.2 e
  · intro j hj h2
    obtain ⟨d', hd'⟩ := dhas_get2 h2
    rw [hd']; rfl
theorem used_eq {ds : Days} {ms : Ms} {k : Int} (hd : Okd ms k ds) : mpM (fun j => dgetL ds j) (ds.map (·.1)) = some (vals ds) := by
  rw [mpM_eq (g := fun j => (dgetL ds j).getD 0)]
  · rw [List.map_map]
    refine congrArg some (List.map_congr_left fun p hp => ?_)
    show (dgetL ds p.1).getD 0 = p.2
    rw [dgetL_mem hd.1 hp]; rfl
  · intro j hj
    obtain ⟨p, hp, rfl⟩ := List.mem_map.mp hj
    rw [dgetL_mem hd.1 hp]; rfl
theorem days_to_try_eq {m : Int} {ms : Ms} {k : Int} {ds : Days} {i : Int} (hm : ms.length ≤ 1000) (hk : 0 ≤ k ∧ k ≤ 1000) (hi : Inr ms i) (hd : Okd ms k ds) : t_days_to_try (m, ms) ds i k = some (tries ms ds i k) := by
  unfold t_days_to_try
  rw [used_eq hd, Option.bind_some, rg_eq (by omega), Option.bind_some, Option.bind_some, Option.bind_some, List.map_id', days_left_eq hm hk hi hd, Option.bind_some, List.map_id', List.filter_filter]
  refine congrArg some (List.filter_congr fun d _ => ?_)
  unfold tryB freshB
  rw [Bool.and_comm]
/-- what is open -/
def opens (ms : Ms) (ds : Days) : List Int := (rgI 0 ms.length).filter fun i => !dhas ds i
theorem mem_opens {ms : Ms} {ds : Days} {i : Int} : i ∈ opens ms ds ↔ Inr ms i ∧ dhas ds i = false := by
  unfold opens
  rw [List.mem_filter]
  have := mem_rg (n := (ms.length : Int)) (x := i)
  rw [Int.toNat_natCast] at this
  rw [this, Bool.not_eq_true']
  rfl
theorem dhas_put {ds : Days} {i d j : Int} : dhas (ds ++ [(i, d)]) j = (dhas ds j || decide (i = j)) := by
  unfold dhas
  rw [List.any_append]
  simp
theorem opens_put {ms : Ms} {ds : Days} {i d : Int} (h : i ∈ opens ms ds) : (opens ms (ds ++ [(i, d)])).length < (opens ms ds).length := by
  have e : opens ms (ds ++ [(i, d)]) = (opens ms ds).filter fun j => !decide (i = j) := by
    unfold opens
    rw [List.filter_filter]
    refine List.filter_congr fun j _ => ?_
    rw [dhas_put, Bool.not_or, Bool.and_comm]
  rw [e, List.length_filter_lt_length_iff_exists]
  exact ⟨i, h, by simp⟩
/-- a partial plan that is right, and a plan that goes on from it -/
def Pd (ms : Ms) (ds : Days) : Prop := ∀ p ∈ ds, ∀ q ∈ ds, p.1 ≠ q.1 → clash ms p.1 q.1 = true → p.2 ≠ q.2
def ExtD (ds : Days) (c : Int → Int) : Prop := ∀ p ∈ ds, c p.1 = p.2
theorem mem_tries {ms : Ms} {ds : Days} {i k d : Int} (hd : Okd ms k ds) : d ∈ tries ms ds i k ↔ (0 ≤ d ∧ d < k) ∧ (∀ p ∈ ds, p.1 ≠ i → clash ms i p.1 = true → p.2 ≠ d) ∧ (d ∈ vals ds ∨ freshB ds k d = true) := by
  unfold tries tryB
  rw [List.mem_filter, mem_rg, Bool.and_eq_true, taken_iff hd, Bool.or_eq_true, memB_iff]
theorem cut1 {xs : List Int} : cutD xs none (some 1) = xs.take 1 := by
  unfold cutD
  have e1 : HT.sIx xs.length 0 none = 0 := rfl
  rw [e1, List.drop_zero]
  have : HT.sIx xs.length xs.length (some 1) = min 1 xs.length := by
    unfold HT.sIx
    simp
  rw [this]
  by_cases h : 1 ≤ xs.length
  · rw [Nat.min_eq_left h]
  · have : xs = [] := List.eq_nil_of_length_eq_zero (by omega)
    rw [this]
    rfl
theorem fresh_some {ds : Days} {k d : Int} (hd : 0 ≤ d ∧ d < k) (hn : ¬ d ∈ vals ds) : ∃ f, freshB ds k f = true ∧ ¬ f ∈ vals ds ∧ 0 ≤ f ∧ f < k := by
  unfold freshB
  rw [cut1]
  cases h : (rgI 0 k.toNat).filter fun e => !memB e (vals ds) with
  | nil =>
    have : d ∈ (rgI 0 k.toNat).filter fun e => !memB e (vals ds) := List.mem_filter.mpr ⟨mem_rg.mpr hd, by rw [Bool.not_eq_true', ← Bool.not_eq_true, memB_iff]; exact hn⟩
    rw [h] at this
    exact nomatch this
  | cons f l =>
    have : f ∈ (rgI 0 k.toNat).filter fun e => !memB e (vals ds) := by rw [h]; exact List.mem_cons_self
    obtain ⟨h1, h2⟩ := List.mem_filter.mp this
    rw [Bool.not_eq_true', ← Bool.not_eq_true, memB_iff] at h2
    obtain ⟨h3, h4⟩ := mem_rg.mp h1
    exact ⟨f, memB_iff.mpr (by simp), h2, h3, h4⟩
theorem Pd.put {ms : Ms} {k i d : Int} {ds : Days} (h : Pd ms ds) (hd : Okd ms k ds) (ht : d ∈ tries ms ds i k) (hn : dhas ds i = false) : Pd ms (ds ++ [(i, d)]) := by
  obtain ⟨_, h2, _⟩ := (mem_tries hd).mp ht
  intro p hp q hq hpq hc
  rcases List.mem_append.mp hp with hp | hp <;> rcases List.mem_append.mp hq with hq | hq
  · exact h p hp q hq hpq hc
  · rw [List.mem_singleton.mp hq] at hpq hc ⊢
    rw [clash_comm] at hc
    exact h2 p hp hpq hc
  · rw [List.mem_singleton.mp hp] at hpq hc ⊢
    exact (h2 q hq (Ne.symm hpq) hc).symm
  · rw [List.mem_singleton.mp hp, List.mem_singleton.mp hq] at hpq
    exact absurd rfl hpq
/-- if a plan goes on from here, then one goes on by a day that is tried -/
theorem some_try {ms : Ms} {k i : Int} {ds : Days} {c : Int → Int} (hd : Okd ms k ds) (hi : Inr ms i) (hn : dhas ds i = false) (hc : Proper ms k c) (he : ExtD ds c) : ∃ d c', d ∈ tries ms ds i k ∧ Proper ms k c' ∧ ExtD (ds ++ [(i, d)]) c' := by
  have hr := hc.1 i hi
  have ok : ∀ c', Proper ms k c' → ExtD ds c' → ∀ p ∈ ds, p.1 ≠ i → clash ms i p.1 = true → p.2 ≠ c' i := fun c' h1 h2 p hp hpi hcl e => by
    refine h1.2 i p.1 hi (hd.2 p hp).1 (Ne.symm hpi) hcl ?_
    rw [h2 p hp, e]
  have ext : ∀ c', ExtD ds c' → ExtD (ds ++ [(i, c' i)]) c' := fun c' h p hp => by
    rcases List.mem_append.mp hp with hp | hp
    · exact h p hp
    · rw [List.mem_singleton.mp hp]
  by_cases hu : c i ∈ vals ds
  · exact ⟨c i, c, (mem_tries hd).mpr ⟨hr, ok c hc he, .inl hu⟩, hc, ext c he⟩
  · obtain ⟨f, f1, f2, f3, f4⟩ := fresh_some hr hu
    have hc' := hc.swap hr ⟨f3, f4⟩
    have he' : ExtD ds fun j => sw (c i) f (c j) := fun p hp => by
      show sw _ _ (c p.1) = _
      have hv : p.2 ∈ vals ds := List.mem_map_of_mem hp
      rw [he p hp]
      exact sw_ne (fun z => hu (by rw [← z]; exact hv)) (fun z => f2 (by rw [← z]; exact hv))
    have e : sw (c i) f (c i) = f := sw_l _ _
    refine ⟨f, _, (mem_tries hd).mpr ⟨⟨f3, f4⟩, ?_, .inr f1⟩, hc', ?_⟩
    · have := ok _ hc' he'
      rw [e] at this
      exact this
    · have := ext _ he'
      rw [e] at this
      exact this
end
end Lw
namespace Lw
open PySem PySem.Spec L2 PL TL
set_option autoImplicit false
noncomputable section
/-! what the program's counting says -/
theorem flat_if1 {α β : Type} (p : α → Bool) (v : α → β) (l : List α) : (l.flatMap fun n => if p n = true then [v n] else []) = (l.filter p).map v := by
  rw [flat_if p (fun n => [v n]) l]
  induction l.filter p with
  | nil => rfl
  | cons a l ih => rw [List.flatMap_cons, ih]; rfl
theorem lv_short {ms : Ms} : ∀ (i : Nat) (s : List (List Int)), s ∈ Lv ms i → ∀ x ∈ s, x.length ≤ i
  | 0, s, h, x, hx => by rw [List.mem_singleton.mp h] at hx; exact nomatch hx
  | i + 1, s, h, x, hx => by
    obtain ⟨q, hq, h⟩ := List.mem_flatMap.mp h
    have ih := lv_short i q hq
    rcases List.mem_append.mp h with h | h
    · obtain ⟨n, hn, rfl⟩ := List.mem_map.mp h
      unfold putS at hx
      rcases List.mem_append.mp hx with hx | hx
      · rcases List.mem_append.mp hx with hx | hx
        · exact Nat.le_succ_of_le (ih x (List.mem_of_mem_take hx))
        · rw [List.mem_singleton.mp hx, List.length_append]
          have hn' := mem_rg (n := (q.length : Int)) (x := n)
          rw [Int.toNat_natCast] at hn'
          obtain ⟨n0, n1⟩ := hn'.mp (List.mem_filter.mp hn).1
          have : gs q n ∈ q := by
            unfold gs
            rw [List.getElem?_eq_getElem (by omega)]
            exact List.getElem_mem _
          have := ih _ this
          show _ + 1 ≤ _
          omega
      · exact Nat.le_succ_of_le (ih x (List.mem_of_mem_drop hx))
    · rw [List.mem_singleton.mp h] at hx
      rcases List.mem_append.mp hx with hx | hx
      · exact Nat.le_succ_of_le (ih x hx)
      · rw [List.mem_singleton.mp hx]
        show 1 ≤ i + 1
        omega
theorem fct_le {i : Nat} (h : i ≤ 7) : fct i ≤ 5040 := by
  have : ∀ j : Fin 8, fct j ≤ 5040 := by decide
  exact this ⟨i, by omega⟩
theorem dgetL_put {ds : Days} {g v g' : Int} : dgetL (dput ds g v) g' = if g' = g then some v else dgetL ds g' := by
  unfold dput
  by_cases h : dhas ds g = true
  · rw [if_pos h]
    have aux : ∀ ds : Days, dgetL (ds.map fun p => if p.1 = g then (p.1, v) else p) g' = if g' = g then (if dhas ds g = true then some v else none) else dgetL ds g' := by
      intro ds
      induction ds with
      | nil => by_cases e : g' = g <;> simp [dgetL, dhas, e]
      | cons p ds ih =>
        unfold dgetL at ih ⊢
        rw [List.map_cons, List.find?_cons, List.find?_cons]
        have hc : dhas (p :: ds) g = (decide (p.1 = g) || dhas ds g) := by unfold dhas; rw [List.any_cons]
        rw [hc]
        by_cases e : p.1 = g
        · rw [if_pos e]
          by_cases e2 : g' = g
          · have : decide (p.1 = g') = true := decide_eq_true (by omega)
            simp [e2, e]
          · have : ¬ p.1 = g' := by omega
            simp only [decide_eq_false this, if_neg e2] at ih ⊢
            exact ih
        · rw [if_neg e]
          by_cases e2 : p.1 = g'
          · have : ¬ g' = g := by omega
            simp [e2, this]
          · simp only [decide_eq_false e2, decide_eq_false e, Bool.false_or]
            exact ih
    rw [aux, h, if_pos rfl]
  · rw [if_neg h]
    have hf : dgetL ds g = none := by
      cases e : dgetL ds g with
      | none => rfl
      | some d =>
        have := dhas_get ds g
        rw [e] at this
        exact absurd this.symm h
    unfold dgetL at hf ⊢
    rw [List.find?_append]
    cases e : ds.find? fun p => decide (p.1 = g') with
    | some p =>
      have hp := List.find?_some e
      have hp : p.1 = g' := by simpa using hp
      by_cases e2 : g' = g
      · rw [e2] at e
        rw [e] at hf
        exact nomatch hf
      · rw [if_neg e2]; rfl
    | none =>
      by_cases e2 : g' = g
      · rw [if_pos e2, e2]; simp
      · rw [if_neg e2]
        have : ¬ g = g' := fun z => e2 z.symm
        simp [this]
theorem dput_keys {ds : Days} {g v : Int} (h : (ds.map (·.1)).Nodup) : ((dput ds g v).map (·.1)).Nodup ∧ ∀ p ∈ dput ds g v, p.1 = g ∨ ∃ q ∈ ds, q.1 = p.1 := by
  unfold dput
  by_cases hh : dhas ds g = true
  · rw [if_pos hh]
    have e : (ds.map fun p => if p.1 = g then (p.1, v) else p).map (·.1) = ds.map (·.1) := by
      rw [List.map_map]
      refine List.map_congr_left fun p _ => ?_
      show (if p.1 = g then (p.1, v) else p).1 = p.1
      split <;> rfl
    refine ⟨by rw [e]; exact h, fun p hp => ?_⟩
    have : p.1 ∈ (ds.map fun p => if p.1 = g then (p.1, v) else p).map (·.1) := List.mem_map_of_mem hp
    rw [e] at this
    obtain ⟨q, hq, hq2⟩ := List.mem_map.mp this
    exact .inr ⟨q, hq, hq2⟩
  · rw [if_neg hh]
    refine ⟨?_, fun p hp => ?_⟩
    · rw [List.map_append, List.nodup_append]
      refine ⟨h, by simp, fun x hx y hy e => hh ?_⟩
      rw [List.map_cons, List.map_nil, List.mem_singleton] at hy
      obtain ⟨p, hp, rfl⟩ := List.mem_map.mp hx
      exact dhas_iff.mpr ⟨p, hp, by rw [e, hy]⟩
    · rcases List.mem_append.mp hp with hp | hp
      · exact .inr ⟨p, hp, rfl⟩
      · rw [List.mem_singleton.mp hp]; exact .inl rfl
theorem dput_sum {ds : Days} {g v : Int} (h : (ds.map (·.1)).Nodup) (f : Int → Int) : ((dput ds g v).map fun p => p.2 * f p.1).sum = (ds.map fun p => p.2 * f p.1).sum + (v - (dgetL ds g).getD 0) * f g := by
  unfold dput
  by_cases hh : dhas ds g = true
  · rw [if_pos hh]
    have aux : ∀ ds : Days, (ds.map (·.1)).Nodup → ((ds.map fun p => if p.1 = g then (p.1, v) else p).map fun p => p.2 * f p.1).sum = (ds.map fun p => p.2 * f p.1).sum + (if dhas ds g = true then (v - (dgetL ds g).getD 0) * f g else 0) := by
      intro ds h
      induction ds with
      | nil => rfl
      | cons p ds ih =>
        rw [List.map_cons, List.nodup_cons] at h
        rw [List.map_cons, List.map_cons, List.sum_cons, List.map_cons, List.sum_cons, ih h.2]
        have hc : dhas (p :: ds) g = (decide (p.1 = g) || dhas ds g) := by unfold dhas; rw [List.any_cons]
        rw [hc]
        by_cases e : p.1 = g
        · have hn : ¬ dhas ds g = true := fun z => by
            obtain ⟨q, hq, hq2⟩ := dhas_iff.mp z
            exact h.1 (by rw [e, ← hq2]; exact List.mem_map_of_mem hq)
          have hg : dgetL (p :: ds) g = some p.2 := by unfold dgetL; rw [List.find?_cons, decide_eq_true e]; rfl
          rw [if_pos e, if_neg hn, hg, decide_eq_true e, Bool.true_or, if_pos rfl, e]
          show v * f g + (_ + 0) = _ + _ + (v - p.2) * f g
          rw [Int.sub_mul]
          omega
        · have hg : dgetL (p :: ds) g = dgetL ds g := by unfold dgetL; rw [List.find?_cons, decide_eq_false e]
          rw [if_neg e, hg, decide_eq_false e, Bool.false_or]
          omega
    rw [aux ds h, if_pos hh]
  · rw [if_neg hh, List.map_append, List.sum_append]
    have hf : dgetL ds g = none := by
      cases e : dgetL ds g with
      | none => rfl
      | some d =>
        have := dhas_get ds g
        rw [e] at this
        exact absurd this.symm hh
    rw [hf]
    show _ + (v * f g + 0) = _ + (v - 0) * f g
    rw [Int.sub_zero, Int.add_zero]
def Cnt (zs : List Int) (ds : Days) : Prop := (ds.map (·.1)).Nodup ∧ (∀ g, (dgetL ds g).getD 0 = (zs.count g : Int)) ∧ (∀ f : Int → Int, (ds.map fun p => p.2 * f p.1).sum = (zs.map f).sum) ∧ (∀ p ∈ ds, p.1 ∈ zs) ∧ ds.length ≤ zs.length
theorem cnt_step {zs : List Int} {ds : Days} {z : Int} (h : Cnt zs ds) : Cnt (zs ++ [z]) (dput ds z ((dgetL ds z).getD 0 + 1)) := by
  obtain ⟨h1, h2, h3, h4, h5⟩ := h
  refine ⟨(dput_keys h1).1, fun g => ?_, fun f => ?_, fun p hp => ?_, ?_⟩
  · rw [dgetL_put, List.count_append]
    by_cases e : g = z
    · rw [if_pos e, e, h2, List.count_cons_self, List.count_nil]
      show (_ : Int) + 1 = _
      omega
    · rw [if_neg e, h2, List.count_cons_of_ne (fun z' => e z'.symm), List.count_nil]
      omega
  · rw [dput_sum h1, h3, List.map_append, List.sum_append]
    show _ + (_ + 1 - _) * f z = _ + (f z + 0)
    rw [show (dgetL ds z).getD 0 + 1 - (dgetL ds z).getD 0 = 1 by omega]
    omega
  · rcases (dput_keys h1).2 p hp with e | ⟨q, hq, e⟩
    · rw [e]; exact List.mem_append_right _ (List.mem_singleton.mpr rfl)
    · rw [← e]; exact List.mem_append_left _ (h4 q hq)
  · rw [List.length_append]
    unfold dput
    split
    · rw [List.length_map]; omega
    · rw [List.length_append]; show _ + 1 ≤ _ + 1; omega
theorem groupings_spec {nn : Int} {ms : Ms} (hm : ms.length ≤ 7) : W (t_groupings (nn, ms)) fun ds => Cnt (szs ms ms.length) ds := by
  unfold t_groupings
  refine rg_W (by rw [len_eq]; show _ ≤ ((ms.length : Nat) : Int) ∧ ((ms.length : Nat) : Int) ≤ _; omega) ?_
  refine w_bind (w_lpM (fun i s => s = Lv ms i) rfl ?_) ?_
  · rintro i y s hy rfl
    obtain ⟨rfl, hlt⟩ := rg_get hy
    have hlt : (i : Int) < ms.length := hlt
    have hi7 := fct_le (i := i + 1) (by omega)
    have hcard := lv_card ms (i + 1)
    refine w_eq (lp_flat (B := 1000000) (f := fun sets => (((rgI 0 sets.length).filter fun n => okS ms i (gs sets n)).map fun n => putS sets n i) ++ [sets ++ [[(i : Int)]]]) ?_ ?_) (w_some (List.nil_append _))
    · intro sets hs s hb
      obtain ⟨m1, m2⟩ := lv_mem hs
      rw [List.length_append, List.length_map] at hb
      have hsh := lv_short i sets hs
      rw [rg_eq (by rw [len_eq]; omega), Option.bind_some, lp_flat (B := 1000000) (f := fun n => if okS ms i (gs sets n) = true then [putS sets n i] else [])]
      · rw [Option.bind_some, flat_if1, catG_eq (by show _ + 1 ≤ _; omega), Option.bind_some, snoc_eq (by
          rw [List.length_append, List.length_map, len_eq, Int.toNat_natCast]
          simp only [List.length_singleton] at hb
          omega), Option.bind_some, List.append_assoc, len_eq, Int.toNat_natCast]
      · intro n hn s hb2
        obtain ⟨n0, n1⟩ := mem_rg.mp hn
        rw [len_eq] at n1
        have hi : Inr ms i := ⟨by omega, hlt⟩
        have hmem := m2 n n0 n1
        have e1 : lcM (fun y12 => t_clash (nn, ms) (i : Int) y12) (fun y12 => some (1 : Int)) (gs sets n) = some (((gs sets n).filter fun j => clash ms i j).map fun _ => 1) :=
          lcM_count fun j hj => t_clash_eq hi ⟨(hmem j hj).1, by have := (hmem j hj).2; omega⟩
        have hok : decide (len (((gs sets n).filter fun j => clash ms i j).map fun _ => (1 : Int)) = 0) = okS ms i (gs sets n) := by
          rw [Bool.eq_iff_iff, decide_eq_true_iff, len_filter0]
          unfold okS
          rw [List.all_eq_true]
          simp
        simp only [atI_gs ⟨n0, n1⟩, Option.bind_some, e1, hok]
        have hgl : (gs sets n).length ≤ i := hsh _ (by
          unfold gs
          rw [List.getElem?_eq_getElem (by omega)]
          exact List.getElem_mem _)
        by_cases hb3 : okS ms i (gs sets n) = true
        · rw [if_pos hb3, if_pos hb3] at *
          have e2 : putS sets n i = cutD sets none (some n) ++ [gs sets n ++ [(i : Int)]] ++ cutD sets (some (n + 1)) none := by
            rw [cutD_to ⟨n0, by omega⟩, cutD_from ⟨by omega, by omega⟩]
            unfold putS
            rw [show (n + 1).toNat = n.toNat + 1 by omega]
          have l1 := cutD_len sets none (some n)
          have l2 := cutD_len sets (some (n + 1)) none
          rw [catG_eq (by show _ + 1 ≤ _; omega), Option.bind_some, Option.bind_some, Option.bind_some, catG_eq (by show _ + 1 ≤ _; omega), Option.bind_some, catG_eq (by rw [List.length_append]; show _ + 1 + _ ≤ _; omega), Option.bind_some, ← e2, snoc_eq (by simpa using hb2), Option.bind_some]
        · rw [if_neg hb3, if_neg hb3, List.append_nil]
      · rw [flat_if1, List.length_map, len_eq, Int.toNat_natCast]
        omega
    · show 0 + (Lv ms (i + 1)).length ≤ _
      omega
  · rintro s rfl
    rw [rgI_len, len_eq, Int.toNat_natCast]
    dsimp only
    have hc := lv_card ms ms.length
    have hf := fct_le hm
    refine w_bind (w_lpM (fun j ds => Cnt (((Lv ms ms.length).take j).map fun s => len s) ds) ⟨List.nodup_nil, fun g => rfl, fun f => rfl, fun p hp => (nomatch hp), Nat.le_refl _⟩ ?_) fun ds hds => ?_
    · intro j y ds hy hds
      have hlen := hds.2.2.2.2
      rw [List.length_map, List.length_take] at hlen
      refine w_eq (dputG_eq (by omega)) (w_some ?_)
      rw [List.take_add_one, hy]
      simp only [Option.toList, List.map_append, List.map_cons, List.map_nil]
      exact cnt_step hds
    · rw [List.take_length, lv_sizes] at hds
      exact w_some hds
end
end Lw
namespace Lw
open PySem PySem.Spec L2 PL TL
set_option autoImplicit false
noncomputable section
theorem law_clash_eq {m : Int} {ms : Ms} {i j : Int} (hi : Inr ms i) (hj : Inr ms j) : t__law_clash (m, ms) i j = some (clash ms i j) := by
  unfold t__law_clash clash cl
  simp only [atI_mt hi, atI_mt hj, Option.bind_some]
  cases inP (mt ms i).1 (mt ms j) <;> rfl
end
end Lw
namespace Lw
open PySem PySem.Spec L2 PL TL
set_option autoImplicit false
noncomputable section
theorem szs_in {ms : Ms} {i : Nat} {z : Int} (h : z ∈ szs ms i) : 0 ≤ z ∧ z ≤ i := by
  obtain ⟨p, hp, rfl⟩ := List.mem_map.mp h
  exact ⟨size_nn p, (rg_ino hp).2.2⟩
theorem szs_card (ms : Ms) (i : Nat) : (szs ms i).length ≤ fct i := by unfold szs; rw [List.length_map]; exact rg_card ms i
theorem group_count_eq {n : Int} {ms : Ms} {g : Int} (hm : ms.length ≤ 7) : t_group_count (n, ms) g = some ((szs ms ms.length).count g : Int) := by
  obtain ⟨ds, e, h⟩ := groupings_spec (nn := n) hm
  unfold t_group_count
  rw [e, Option.bind_some, h.2.1]
theorem fall_loop {k w : Int} {g : Nat} (hg : g ≤ 1000) (hk : -1000 ≤ k ∧ k ≤ 1000) : lpM (fun (s4 : Int) y5 => ((mulG s4 (k - y5)).bind fun v10 => some v10 : Option (Int))) (rgI 0 g) w = some (w * fall k g) := by
  have : W (lpM (fun (s4 : Int) y5 => ((mulG s4 (k - y5)).bind fun v10 => some v10 : Option (Int))) (rgI 0 g) w) fun s => s = w * fall k g := by
    refine w_mono (w_lpM (fun i s => s = w * fall k i) (by show w = w * 1; omega) ?_) fun s hs => by rw [rgI_len] at hs; exact hs
    rintro i y s hy rfl
    have hy' := rg_get (n := (g : Int)) (by rw [Int.toNat_natCast]; exact hy)
    obtain ⟨rfl, hlt⟩ := hy'
    rw [mulG_r ⟨by omega, by omega⟩, Option.bind_some]
    exact w_some (by show _ = w * (fall k i * (k - i)); rw [Int.mul_assoc])
  exact w_val this
theorem plan_count_sum {n : Int} {ms : Ms} {k : Int} (hm : ms.length ≤ 7) (hk : -1000 ≤ k ∧ k ≤ 1000) : t_plan_count (n, ms) k = some ((szs ms ms.length).map fun z => fall k z.toNat).sum := by
  obtain ⟨ds, e, h1, h2, h3, h4, h5⟩ := groupings_spec (nn := n) hm
  unfold t_plan_count
  rw [e, Option.bind_some, Option.bind_some]
  have : W (lpM (fun (s2 : Int) (y3 : Int × Int) => ((rg y3.1).bind fun l14 => (lpM (fun (s4 : Int) y5 => ((mulG s4 (k - y5)).bind fun v10 => some v10 : Option (Int))) l14 y3.2).bind fun s11 => some (s2 + s11) : Option (Int))) ds (0 : Int)) fun s => s = (ds.map fun p => p.2 * fall k p.1.toNat).sum := by
    refine w_mono (w_lpM (fun i s => s = ((ds.take i).map fun p => p.2 * fall k p.1.toNat).sum) rfl ?_) fun s hs => by rw [List.take_length] at hs; exact hs
    rintro i p s hp rfl
    have hz := szs_in (h4 p (List.mem_of_getElem? hp))
    rw [rg_eq (by omega), Option.bind_some, fall_loop (by omega) hk, Option.bind_some, List.take_add_one, hp]
    refine w_some ?_
    simp only [Option.toList, List.map_append, List.map_cons, List.map_nil, List.sum_append, List.sum_cons, List.sum_nil, Int.add_zero]
  rw [w_val this, Option.bind_some, h3 fun z => fall k z.toNat]
theorem plan_count_eq {n : Int} {ms : Ms} {k : Int} (hm : ms.length ≤ 7) (hk : 0 ≤ k ∧ k ≤ 1000) : t_plan_count (n, ms) k = some ((Lay ms k ms.length).length : Int) := by
  rw [plan_count_sum hm ⟨by omega, hk.2⟩, lay_count hk.1]
  unfold szs
  rw [List.map_map]
  rfl
theorem lay_eq {n : Int} {ms : Ms} {k : Int} (hm : ms.length ≤ 5) (hk : 0 ≤ k ∧ k ≤ 5) : t__law_lay (n, ms) k = some (Lay ms k ms.length) := by
  unfold t__law_lay
  refine w_val ?_
  refine rg_W (by rw [len_eq]; show _ ≤ ((ms.length : Nat) : Int) ∧ ((ms.length : Nat) : Int) ≤ _; omega) ?_
  refine w_bind (w_lpM (fun i s => s = Lay ms k i) rfl ?_) ?_
  · rintro i y s hy rfl
    obtain ⟨rfl, hlt⟩ := rg_get hy
    have hlt : (i : Int) < ms.length := hlt
    have hcard := lay_card (ms := ms) hk (i + 1)
    have hp5 : 5 ^ (i + 1) ≤ 3125 := by
      have : ∀ j : Fin 6, 5 ^ (j : Nat) ≤ 3125 := by decide
      exact this ⟨i + 1, by omega⟩
    refine w_eq (lp_flat (B := 1000000) (f := fun plan => ((rgI 0 k.toNat).filter fun d => !conf ms plan d).map fun d => plan ++ [d]) ?_ ?_) (w_some (List.nil_append _))
    · intro plan hp s hb
      have hl := lay_len i plan hp
      rw [rg_eq (by omega), Option.bind_some, lcM_eq (p := fun j => clash ms i j) (g := fun j => gt plan j), Option.bind_some, rg_eq (by omega), Option.bind_some, lcM_eq (p := fun d => !conf ms plan d) (g := fun d => plan ++ [d]), Option.bind_some, catG_eq (by simpa using hb), Option.bind_some]
      · intro d hd
        congr 2
        rw [Bool.eq_iff_iff, memB_iff, conf_iff, hl]
        constructor
        · intro h
          obtain ⟨j, hj, e⟩ := List.mem_map.mp h
          obtain ⟨hj, hc⟩ := List.mem_filter.mp hj
          obtain ⟨j0, j1⟩ := mem_rg.mp hj
          exact ⟨j, j0, j1, hc, e⟩
        · rintro ⟨j, j0, j1, hc, e⟩
          exact List.mem_map.mpr ⟨j, List.mem_filter.mpr ⟨mem_rg.mpr ⟨j0, j1⟩, hc⟩, e⟩
      · intro d hd _
        rw [catG_eq (by show _ + 1 ≤ _; omega)]
      · intro j hj
        obtain ⟨j0, j1⟩ := mem_rg.mp hj
        exact law_clash_eq ⟨by omega, hlt⟩ ⟨j0, by omega⟩
      · intro j hj _
        obtain ⟨j0, j1⟩ := mem_rg.mp hj
        exact atI_gt ⟨j0, by omega⟩
    · show 0 + (Lay ms k (i + 1)).length ≤ _
      omega
  · rintro s rfl
    rw [rgI_len, len_eq, Int.toNat_natCast]
    exact w_some rfl
theorem falling_eq {k : Int} {g : Int} (hg : 0 ≤ g ∧ g ≤ 1000) (hk : -1000 ≤ k ∧ k ≤ 1000) : t__law_falling k g = some (fall k g.toNat) := by
  unfold t__law_falling
  rw [rg_eq (by omega), Option.bind_some, fall_loop (by omega) hk, Option.bind_some, Int.one_mul]
theorem same_int (a b : Int) : t__law_same 20 (D.int a) (D.int b) = some (decide (a = b)) := by
  unfold t__law_same
  rfl
theorem in_order_eq {p : List Int} (hl : p.length ≤ 1000) : t__law_in_order p = some (inB p) := by
  unfold t__law_in_order
  refine w_val ?_
  refine rg_W (by rw [len_eq]; omega) ?_
  refine w_behind (w_lpX (fun i _ => ∀ y : Int, 0 ≤ y → y < i → 0 < gt p y → gt p y - 1 ∈ p.take y.toNat) (fun _ => False) (fun b : Bool => b = inB p) (fun y h1 h2 => by omega) ?_) ?_ ?_
  · intro i y _ hy hI
    obtain ⟨rfl, hlt⟩ := rg_get hy
    rw [len_eq] at hlt
    simp only [atI_gt (xs := p) (i := (i : Int)) ⟨by omega, hlt⟩, Option.bind_some]
    rw [cutD_to ⟨by omega, by omega⟩]
    have bad : 0 < gt p i → ¬ gt p i - 1 ∈ p.take (i : Int).toNat → false = inB p := fun h1 h2 => by
      refine Eq.symm (Bool.eq_false_iff.mpr fun z => h2 ?_)
      exact sealB_iff.mp z i (by omega) hlt h1
    have good : (0 < gt p i → gt p i - 1 ∈ p.take (i : Int).toNat) → ∀ y : Int, 0 ≤ y → y < ((i + 1 : Nat) : Int) → 0 < gt p y → gt p y - 1 ∈ p.take y.toNat := fun h y y0 y1 hy => by
      by_cases e : y = i
      · rw [e] at hy ⊢; exact h hy
      · exact hI y y0 (by omega) hy
    by_cases h1 : 0 < gt p i
    · rw [if_pos (decide_eq_true h1), Option.bind_some]
      by_cases h2 : gt p i - 1 ∈ p.take (i : Int).toNat
      · rw [memB_iff.mpr h2, if_neg (by decide)]
        exact w_some (good fun _ => h2)
      · rw [show memB (gt p i - 1) (p.take (i : Int).toNat) = false from Bool.eq_false_iff.mpr fun z => h2 (memB_iff.mp z), if_pos (by decide)]
        exact w_some (bad h1 h2)
    · rw [if_neg (by rw [decide_eq_true_iff]; exact h1), Option.bind_some, if_neg Bool.false_ne_true]
      exact w_some (good fun h => absurd h h1)
  · intro s hs
    rcases hs with hs | hs
    · rw [rgI_len, len_eq, Int.toNat_natCast] at hs
      exact w_some (Eq.symm (sealB_iff.mpr hs))
    · exact hs.elim
  · exact fun r h => h
theorem law_groups_eq {n : Int} {ms : Ms} (hm : ms.length ≤ 5) : t__law_groups (n, ms) = some ((rgI 0 (ms.length + 2)).map fun g => ((szs ms ms.length).count g : Int)) := by
  unfold t__law_groups
  have e0 : len (n, ms).2 = (ms.length : Int) := rfl
  rw [e0, lay_eq hm ⟨by omega, by omega⟩, Option.bind_some, lcM_eq (p := inB) (g := fun p => p) (fun p hp => in_order_eq (by rw [lay_len _ p hp]; omega)) (fun _ _ _ => rfl), List.map_id', Option.bind_some, lay_ino ms.length (Int.le_refl _), mpM_eq (g := size), Option.bind_some, rg_eq (by omega), Option.bind_some]
  · rw [show ((ms.length : Int) + 2).toNat = ms.length + 2 by omega]
    refine congrArg some (List.map_congr_left fun g _ => ?_)
    rw [len_eq, List.length_map]
    unfold szs
    congr 1
    rw [← List.countP_eq_length_filter]
    unfold List.count
    refine List.countP_congr fun x _ => ?_
    simp
  · intro p hp
    obtain ⟨h1, h2, h3⟩ := rg_ino hp
    by_cases h0 : 0 < len p
    · rw [if_pos (decide_eq_true h0)]
      obtain ⟨mx, e, m1, m2⟩ := maxG_int (xs := p) (fun z => by rw [z] at h0; exact absurd h0 (by decide))
      rw [e, Option.bind_some]
      have a1 := (h2 mx).mp m1
      congr 1
      have := (h2 (size p - 1)).mpr ⟨by omega, by omega⟩
      have := m2 _ this
      omega
    · rw [if_neg (by rw [decide_eq_true_iff]; exact h0)]
      rw [len_eq] at h0
      have : p = [] := List.eq_nil_of_length_eq_zero (by omega)
      rw [this]
      rfl
theorem count_sum {n : Nat} {zs : List Int} (h : ∀ z ∈ zs, 0 ≤ z ∧ z < n) (f : Int → Int) : ((rgI 0 n).map fun g => (zs.count g : Int) * f g).sum = (zs.map f).sum := by
  induction zs with
  | nil => simp [sum_const]
  | cons z zs ih =>
    rw [List.map_cons, List.sum_cons, ← ih fun y hy => h y (List.mem_cons_of_mem _ hy)]
    have hz := h z List.mem_cons_self
    have : ∀ l : List Int, l.Nodup → z ∈ l → (l.map fun g => ((z :: zs).count g : Int) * f g).sum = f z + (l.map fun g => (zs.count g : Int) * f g).sum := by
      intro l hl hm
      induction l with
      | nil => exact nomatch hm
      | cons a l ih =>
        rw [List.nodup_cons] at hl
        rw [List.map_cons, List.sum_cons, List.map_cons, List.sum_cons]
        by_cases e : a = z
        · have : (l.map fun g => ((z :: zs).count g : Int) * f g) = l.map fun g => (zs.count g : Int) * f g := List.map_congr_left fun g hg => by
            rw [List.count_cons_of_ne (fun e2 => hl.1 (by rw [e, e2]; exact hg))]
          rw [this, e, List.count_cons_self]
          rw [Int.natCast_add, Int.add_mul]
          omega
        · rw [List.count_cons_of_ne (fun e2 => e e2.symm), ih hl.2 ((List.mem_cons.mp hm).resolve_left fun e2 => e e2.symm)]
          omega
    refine this _ (rgI_nodup 0 n) ?_
    have := mem_rg (n := (n : Int)) (x := z)
    rw [Int.toNat_natCast] at this
    exact this.mpr hz
end
end Lw
namespace Lw
open PySem PySem.Spec L2 PL TL
set_option autoImplicit false
noncomputable section
/-! webs as they are drawn -/
structure WebOk (lim n : Int) (ms : Ms) : Prop where
  n0 : 0 ≤ n
  n1 : n ≤ 40
  len : (ms.length : Int) ≤ lim
  good : ∀ p ∈ ms, 0 ≤ p.1 ∧ p.1 < p.2 ∧ p.2 < n
theorem take_W {β : Type} {row : List Int} {tot n c : Int} {f : Int × Int → Option β} {Q : β → Prop} (hn : 0 < n) (h0 : 0 ≤ c) (h1 : c ≤ 1000000000) (h : ∀ v, 0 ≤ v → v < n → W (f (v, c + 1)) Q) : W ((t__law_take row tot n c).bind f) Q := by
  obtain ⟨v, v0, v1, e⟩ := take_spec (row := row) (tot := tot) hn h0 h1
  exact w_eq e (h v v0 v1)
theorem few_spec {row : List Int} {tot c lim : Int} (hl : 3 ≤ lim ∧ lim ≤ 1000) (h0 : 0 ≤ c) (h1 : c ≤ 100000) : W (t__law_few row tot c) fun p => WebOk lim p.1.1 p.1.2 ∧ p.1.1 ≤ 4 ∧ (p.1.2.length : Int) ≤ 3 ∧ c ≤ p.2 ∧ p.2 ≤ c + 10 := by
  unfold t__law_few
  rw [Option.bind_assoc]
  refine take_W (by decide) h0 (by omega) fun v v0 v1 => ?_
  rw [Option.bind_some, Option.bind_assoc]
  refine take_W (by decide) (by omega) (by omega) fun w w0 w1 => ?_
  dsimp only
  rw [rg_eq (by omega)]
  simp only [Option.bind_some]
  refine w_bind (w_lpM (fun i (s : Ms × Int) => (s.1.length : Int) ≤ i ∧ (∀ p ∈ s.1, 0 ≤ p.1 ∧ p.1 < p.2 ∧ p.2 < 4 - v) ∧ c + 2 ≤ s.2 ∧ s.2 ≤ c + 2 + 2 * i) ⟨by show ((0 : Nat) : Int) ≤ ((0 : Nat) : Int); omega, fun p h => (nomatch h), by show c + 2 ≤ c + 1 + 1; omega, by show c + 1 + 1 ≤ _; omega⟩ ?_) ?_
  · rintro i y ⟨s, c1⟩ hy ⟨s1, s2, s3, s4⟩
    obtain ⟨rfl, hlt⟩ := rg_get hy
    dsimp only at s1 s2 s3 s4 ⊢
    by_cases hv : 1 < 4 - v
    · rw [if_pos (decide_eq_true hv)]
      refine take_W (by omega) (by omega) (by omega) fun a a0 a1 => ?_
      simp only [Option.bind_assoc]
      refine take_W (by omega) (by omega) (by omega) fun b b0 b1 => ?_
      simp only [Option.bind_some]
      refine w_eq (snoc_eq (by omega)) (w_some ⟨by rw [List.length_append]; show ((s.length + 1 : Nat) : Int) ≤ _; omega, fun p hp => ?_, by show c + 2 ≤ c1 + 1 + 1; omega, by show c1 + 1 + 1 ≤ _; omega⟩)
      rcases List.mem_append.mp hp with hp | hp
      · exact s2 p hp
      · rw [List.mem_singleton.mp hp]
        exact ⟨a0, by show a < a + 1 + b; omega, by show a + 1 + b < 4 - v; omega⟩
    · rw [if_neg (by rw [decide_eq_true_iff]; exact hv)]
      exact w_some ⟨by show (s.length : Int) ≤ _; omega, s2, s3, by show c1 ≤ _; omega⟩
  · rintro ⟨s, c1⟩ ⟨s1, s2, s3, s4⟩
    rw [rgI_len] at s1 s4
    dsimp only at s1 s2 s3 s4
    exact w_some ⟨⟨by show 0 ≤ 4 - v; omega, by show 4 - v ≤ 40; omega, by show (s.length : Int) ≤ lim; omega, s2⟩, by show 4 - v ≤ 4; omega, by show (s.length : Int) ≤ 3; omega, by show c ≤ c1; omega, by show c1 ≤ c + 10; omega⟩
theorem plain_spec {row : List Int} {tot c most lim : Int} (hm : 0 ≤ most ∧ most ≤ 20) (hl : 0 ≤ lim ∧ lim ≤ 1000) (h0 : 0 ≤ c) (h1 : c ≤ 100000) : W (t__law_plain row tot most lim c) fun p => WebOk lim p.1.1 p.1.2 ∧ p.1.1 ≤ most ∧ c ≤ p.2 ∧ p.2 ≤ c + 500 := by
  unfold t__law_plain
  refine take_W (by omega) h0 (by omega) fun n n0 n1 => ?_
  rw [Option.bind_assoc]
  refine take_W (by omega) (by omega) (by omega) fun ch ch0 ch1 => ?_
  rw [Option.bind_some]
  dsimp only
  refine rg_W (by omega) ?_
  refine w_bind (w_lpM (fun i (s : Ms × Int) => (s.1.length : Int) ≤ lim ∧ (∀ p ∈ s.1, 0 ≤ p.1 ∧ p.1 < p.2 ∧ p.2 < n) ∧ c + 2 ≤ s.2 ∧ s.2 ≤ c + 2 + 20 * i) ⟨by show ((0 : Nat) : Int) ≤ lim; omega, fun p h => (nomatch h), by show c + 2 ≤ c + 1 + 1; omega, by show c + 1 + 1 ≤ _; omega⟩ ?_) ?_
  · rintro i y ⟨s, c1⟩ hy ⟨s1, s2, s3, s4⟩
    obtain ⟨rfl, hlt⟩ := rg_get hy
    dsimp only at s1 s2 s3 s4 ⊢
    rw [rg2_eq (by omega), Option.bind_some]
    refine w_bind (w_lpM (fun j (t : Ms × Int) => (t.1.length : Int) ≤ lim ∧ (∀ p ∈ t.1, 0 ≤ p.1 ∧ p.1 < p.2 ∧ p.2 < n) ∧ c1 ≤ t.2 ∧ t.2 ≤ c1 + j) ⟨s1, s2, Int.le_refl _, by show c1 ≤ _; omega⟩ ?_) ?_
    · rintro j z ⟨t, c2⟩ hz ⟨t1, t2, t3, t4⟩
      dsimp only at t1 t2 t3 t4 ⊢
      have hz2 := mem_rg2.mp (List.mem_of_getElem? hz)
      have hjl := (List.getElem?_eq_some_iff.mp hz).1
      rw [rgI_len] at hjl
      simp only [Option.bind_assoc]
      refine take_W (by omega) (by omega) (by omega) fun a a0 a1 => ?_
      rw [Option.bind_some]
      dsimp only
      have keep : W (some (t, c2 + 1)) fun s' : Ms × Int => (s'.1.length : Int) ≤ lim ∧ (∀ p ∈ s'.1, 0 ≤ p.1 ∧ p.1 < p.2 ∧ p.2 < n) ∧ c1 ≤ s'.2 ∧ s'.2 ≤ c1 + ((j + 1 : Nat) : Int) := w_some ⟨t1, t2, by show c1 ≤ c2 + 1; omega, by show c2 + 1 ≤ _; omega⟩
      by_cases ha : a < 1 + ch
      · rw [if_pos (decide_eq_true ha), Option.bind_some]
        by_cases hb : len t < lim
        · rw [if_pos (decide_eq_true hb)]
          rw [len_eq] at hb
          refine w_eq (snoc_eq (by omega)) (w_some ⟨by rw [List.length_append]; show ((t.length + 1 : Nat) : Int) ≤ _; omega, fun p hp => ?_, by show c1 ≤ c2 + 1; omega, by show c2 + 1 ≤ _; omega⟩)
          rcases List.mem_append.mp hp with hp | hp
          · exact t2 p hp
          · rw [List.mem_singleton.mp hp]
            exact ⟨by show (0 : Int) ≤ i; omega, by show (i : Int) < z; omega, hz2.2⟩
        · rw [if_neg (by rw [decide_eq_true_iff]; exact hb)]
          exact keep
      · rw [if_neg (by rw [decide_eq_true_iff]; exact ha), Option.bind_some, if_neg Bool.false_ne_true]
        exact keep
    · rintro ⟨t, c2⟩ ⟨t1, t2, t3, t4⟩
      rw [rgI_len] at t4
      dsimp only at t1 t2 t3 t4
      exact w_some ⟨t1, t2, by show c + 2 ≤ c2; omega, by show c2 ≤ _; omega⟩
  · rintro ⟨s, c1⟩ ⟨s1, s2, s3, s4⟩
    rw [rgI_len] at s4
    dsimp only at s1 s2 s3 s4 ⊢
    simp only [Option.bind_assoc]
    refine take_W (by omega) (by omega) (by omega) fun q q0 q1 => ?_
    dsimp only
    rw [rg_eq (by omega)]
    simp only [Option.bind_some]
    refine w_bind (w_lpM (fun i (s : Ms × Int) => (s.1.length : Int) ≤ lim ∧ (∀ p ∈ s.1, 0 ≤ p.1 ∧ p.1 < p.2 ∧ p.2 < n) ∧ c1 + 1 ≤ s.2 ∧ s.2 ≤ c1 + 1 + i) ⟨s1, s2, Int.le_refl _, by show c1 + 1 ≤ _; omega⟩ ?_) ?_
    · rintro i y ⟨s, c2⟩ hy ⟨t1, t2, t3, t4⟩
      obtain ⟨rfl, hlt⟩ := rg_get hy
      dsimp only at t1 t2 t3 t4 ⊢
      by_cases hs : 1 < len s
      · rw [if_pos (decide_eq_true hs)]
        rw [len_eq] at hs ⊢
        refine take_W (by omega) (by omega) (by omega) fun a a0 a1 => ?_
        dsimp only
        rw [cutD_from ⟨a0, by omega⟩, cutD_to ⟨a0, by omega⟩]
        have hl2 : (s.drop a.toNat ++ s.take a.toNat).length = s.length := by
          rw [List.length_append, List.length_drop, List.length_take]; omega
        refine w_eq (catG_eq (by rw [List.length_append] at hl2; omega)) (w_some ⟨by show ((s.drop a.toNat ++ s.take a.toNat).length : Int) ≤ _; omega, fun p hp => ?_, by show c1 + 1 ≤ c2 + 1; omega, by show c2 + 1 ≤ _; omega⟩)
        rcases List.mem_append.mp hp with hp | hp
        · exact t2 p (List.mem_of_mem_drop hp)
        · exact t2 p (List.mem_of_mem_take hp)
      · rw [if_neg (by rw [decide_eq_true_iff]; exact hs)]
        exact w_some ⟨t1, t2, t3, by show c2 ≤ _; omega⟩
    · rintro ⟨s, c2⟩ ⟨t1, t2, t3, t4⟩
      rw [rgI_len] at t4
      dsimp only at t1 t2 t3 t4
      exact w_some ⟨⟨n0, by show n ≤ 40; omega, t1, t2⟩, by show n ≤ most; omega, by show c ≤ c2; omega, by show c2 ≤ c + 500; omega⟩
theorem sided_spec {row : List Int} {tot c most lim : Int} (hm : 0 < most ∧ most ≤ 20) (hl : 0 ≤ lim ∧ lim ≤ 1000) (h0 : 0 ≤ c) (h1 : c ≤ 100000) : W (t__law_sided row tot most lim c) fun p => WebOk lim p.1.1 p.1.2 ∧ p.1.1 ≤ 2 * most ∧ c ≤ p.2 ∧ p.2 ≤ c + 3 + 2 * lim := by
  unfold t__law_sided
  rw [Option.bind_assoc]
  refine take_W (by omega) h0 (by omega) fun one one0 one1 => ?_
  rw [Option.bind_some, Option.bind_assoc]
  refine take_W (by omega) (by omega) (by omega) fun two two0 two1 => ?_
  rw [Option.bind_some, Option.bind_assoc]
  refine take_W (by omega) (by omega) (by omega) fun q q0 q1 => ?_
  dsimp only
  rw [rg_eq (by omega)]
  simp only [Option.bind_some]
  refine w_bind (w_lpM (fun i (s : Ms × Int) => (s.1.length : Int) ≤ i ∧ (∀ p ∈ s.1, 0 ≤ p.1 ∧ p.1 < p.2 ∧ p.2 < 1 + one + (1 + two)) ∧ c + 3 ≤ s.2 ∧ s.2 ≤ c + 3 + 2 * i) ⟨by show ((0 : Nat) : Int) ≤ ((0 : Nat) : Int); omega, fun p h => (nomatch h), by show c + 3 ≤ c + 1 + 1 + 1; omega, by show c + 1 + 1 + 1 ≤ _; omega⟩ ?_) ?_
  · rintro i y ⟨s, c1⟩ hy ⟨s1, s2, s3, s4⟩
    obtain ⟨rfl, hlt⟩ := rg_get hy
    dsimp only at s1 s2 s3 s4 ⊢
    simp only [Option.bind_assoc]
    refine take_W (by omega) (by omega) (by omega) fun a a0 a1 => ?_
    refine take_W (by omega) (by omega) (by omega) fun b b0 b1 => ?_
    simp only [Option.bind_some]
    refine w_eq (snoc_eq (by omega)) (w_some ⟨by rw [List.length_append]; show ((s.length + 1 : Nat) : Int) ≤ _; omega, fun p hp => ?_, by show c + 3 ≤ c1 + 1 + 1; omega, by show c1 + 1 + 1 ≤ _; omega⟩)
    rcases List.mem_append.mp hp with hp | hp
    · exact s2 p hp
    · rw [List.mem_singleton.mp hp]
      exact ⟨a0, by show a < 1 + one + b; omega, by show 1 + one + b < 1 + one + (1 + two); omega⟩
  · rintro ⟨s, c1⟩ ⟨s1, s2, s3, s4⟩
    rw [rgI_len] at s1 s4
    dsimp only at s1 s2 s3 s4
    exact w_some ⟨⟨by show 0 ≤ 1 + one + (1 + two); omega, by show 1 + one + (1 + two) ≤ 40; omega, by show (s.length : Int) ≤ lim; omega, s2⟩, by show 1 + one + (1 + two) ≤ _; omega, by show c ≤ c1; omega, by show c1 ≤ _; omega⟩
theorem any_spec {row : List Int} {tot c lim : Int} (hl : 0 ≤ lim ∧ lim ≤ 40) (h0 : 0 ≤ c) (h1 : c ≤ 10000) : W (t__law_any row tot lim c) fun p => WebOk lim p.1.1 p.1.2 ∧ p.1.1 ≤ 8 ∧ c ≤ p.2 ∧ p.2 ≤ c + 600 := by
  unfold t__law_any
  refine take_W (by omega) h0 (by omega) fun v v0 v1 => ?_
  dsimp only
  by_cases h : v = 0
  · rw [if_pos (decide_eq_true h)]
    refine w_mono (plain_spec (by decide) ⟨hl.1, by omega⟩ (by omega) (by omega)) fun p hp => ⟨hp.1, by have := hp.2.1; omega, by have := hp.2.2; omega, by have := hp.2.2; omega⟩
  · rw [if_neg (by rw [decide_eq_true_iff]; exact h)]
    by_cases h2 : v = 1
    · rw [if_pos (decide_eq_true h2)]
      refine w_mono (sided_spec (by decide) ⟨hl.1, by omega⟩ (by omega) (by omega)) fun p hp => ⟨hp.1, by have := hp.2.1; omega, by have := hp.2.2; omega, by have := hp.2.2; omega⟩
    · rw [if_neg (by rw [decide_eq_true_iff]; exact h2), Option.bind_assoc]
      refine take_W (by omega) (by omega) (by omega) fun n n0 n1 => ?_
      rw [Option.bind_some, Option.bind_assoc]
      refine take_W (by omega) (by omega) (by omega) fun q q0 q1 => ?_
      dsimp only
      rw [rg_eq (by omega)]
      simp only [Option.bind_some]
      refine w_bind (w_lpM (fun i (s : Ms × Int) => (s.1.length : Int) ≤ i ∧ (∀ p ∈ s.1, 0 ≤ p.1 ∧ p.1 < p.2 ∧ p.2 < 2 + n) ∧ c + 3 ≤ s.2 ∧ s.2 ≤ c + 3 + 2 * i) ⟨by show ((0 : Nat) : Int) ≤ ((0 : Nat) : Int); omega, fun p h => (nomatch h), by show c + 3 ≤ c + 1 + 1 + 1; omega, by show c + 1 + 1 + 1 ≤ _; omega⟩ ?_) ?_
      · rintro i y ⟨s, c1⟩ hy ⟨s1, s2, s3, s4⟩
        obtain ⟨rfl, hlt⟩ := rg_get hy
        dsimp only at s1 s2 s3 s4 ⊢
        refine take_W (by omega) (by omega) (by omega) fun a a0 a1 => ?_
        simp only [Option.bind_assoc]
        refine take_W (by omega) (by omega) (by omega) fun b b0 b1 => ?_
        simp only [Option.bind_some]
        refine w_eq (snoc_eq (by omega)) (w_some ⟨by rw [List.length_append]; show ((s.length + 1 : Nat) : Int) ≤ _; omega, fun p hp => ?_, by show c + 3 ≤ c1 + 1 + 1; omega, by show c1 + 1 + 1 ≤ _; omega⟩)
        rcases List.mem_append.mp hp with hp | hp
        · exact s2 p hp
        · rw [List.mem_singleton.mp hp]
          exact ⟨a0, by show a < a + 1 + b; omega, by show a + 1 + b < 2 + n; omega⟩
      · rintro ⟨s, c1⟩ ⟨s1, s2, s3, s4⟩
        rw [rgI_len] at s1 s4
        dsimp only at s1 s2 s3 s4
        exact w_some ⟨⟨by show 0 ≤ 2 + n; omega, by show 2 + n ≤ 40; omega, by show (s.length : Int) ≤ lim; omega, s2⟩, by show 2 + n ≤ _; omega, by show c ≤ c1; omega, by show c1 ≤ _; omega⟩
theorem web_spec {row : List Int} {tot c lim : Int} (hl : 3 ≤ lim ∧ lim ≤ 40) (h0 : 0 ≤ c) (h1 : c ≤ 9000) : W (t__law_web row tot lim c) fun p => WebOk lim p.1.1 p.1.2 ∧ p.1.1 ≤ 8 ∧ c ≤ p.2 ∧ p.2 ≤ c + 700 := by
  unfold t__law_web
  rw [Option.bind_assoc]
  refine take_W (by omega) h0 (by omega) fun v v0 v1 => ?_
  rw [Option.bind_some]
  dsimp only
  by_cases h : v = 0
  · rw [if_pos (decide_eq_true h)]
    refine w_mono (few_spec (lim := lim) ⟨hl.1, by omega⟩ (by omega) (by omega)) fun p hp => ⟨hp.1, by have := hp.2.1; omega, by have := hp.2.2.2; omega, by have := hp.2.2.2; omega⟩
  · rw [if_neg (by rw [decide_eq_true_iff]; exact h)]
    refine w_mono (any_spec ⟨by omega, hl.2⟩ (by omega) (by omega)) fun p hp => ⟨hp.1, hp.2.1, by have := hp.2.2; omega, by have := hp.2.2; omega⟩
end
end Lw
namespace Lw
open PySem PySem.Spec L2 PL TL
set_option autoImplicit false
noncomputable section
/-! meetings more, people more, webs beside -/
theorem lp_sum {α : Type} {body : Int → α → Option Int} {f : α → Int} : ∀ {xs : List α} {s : Int}, (∀ x ∈ xs, ∀ s : Int, body s x = some (s + f x)) → lpM body xs s = some (s + (xs.map f).sum)
  | [], s, _ => by rw [List.map_nil, List.sum_nil, Int.add_zero]; rfl
  | x :: xs, s, h => by
    show (body s x).bind _ = _
    rw [h x List.mem_cons_self s, Option.bind_some, lp_sum fun y hy => h y (List.mem_cons_of_mem _ hy), List.map_cons, List.sum_cons, Int.add_assoc]
theorem len_flat {α β : Type} (h : α → List β) (l : List α) : ((l.flatMap h).length : Int) = (l.map fun a => ((h a).length : Int)).sum := by
  induction l with
  | nil => rfl
  | cons a l ih => rw [List.flatMap_cons, List.length_append, List.map_cons, List.sum_cons, ← ih]; omega
def tk (ms : Ms) (plan : List Int) (p : Int) : List Int := ((rgI 0 ms.length).filter fun i => inP p (mt ms i)).map (gt plan)
theorem mem_rgn {n : Nat} {x : Int} : x ∈ rgI 0 n ↔ 0 ≤ x ∧ x < n := by
  have := mem_rg (n := (n : Int)) (x := x)
  rw [Int.toNat_natCast] at this
  exact this
theorem mem_tk {ms : Ms} {plan : List Int} {p d : Int} : d ∈ tk ms plan p ↔ ∃ j : Int, 0 ≤ j ∧ j < ms.length ∧ inP p (mt ms j) = true ∧ gt plan j = d := by
  constructor
  · intro h
    obtain ⟨j, hj, e⟩ := List.mem_map.mp h
    obtain ⟨hj, hp⟩ := List.mem_filter.mp hj
    exact ⟨j, (mem_rgn.mp hj).1, (mem_rgn.mp hj).2, hp, e⟩
  · rintro ⟨j, j0, j1, hp, e⟩
    exact List.mem_map.mpr ⟨j, List.mem_filter.mpr ⟨mem_rgn.mpr ⟨j0, j1⟩, hp⟩, e⟩
theorem free_days_eq {n : Int} {ms : Ms} {plan : List Int} {p k : Int} (hm : ms.length ≤ 1000) (hl : plan.length = ms.length) (hk : -1000 ≤ k ∧ k ≤ 1000) : t_free_days (n, ms) plan p k = some ((rgI 0 k.toNat).filter fun d => !memB d (tk ms plan p)) := by
  unfold t_free_days t_meetings_of
  have e0 : len (n, ms).2 = (ms.length : Int) := rfl
  rw [e0, rg_eq (by omega), Option.bind_some, lcM_eq (p := fun i => inP p (mt ms i)) (g := fun i => i), Option.bind_some, mpM_eq (g := gt plan), Option.bind_some, rg_eq (by omega), Option.bind_some, List.map_id', List.map_id', Int.toNat_natCast]
  · rfl
  · intro x hx
    rw [List.map_id'] at hx
    obtain ⟨h0, h1⟩ := mem_rg.mp (List.mem_filter.mp hx).1
    exact atI_gt ⟨h0, by omega⟩
  · intro x hx
    obtain ⟨h0, h1⟩ := mem_rg.mp hx
    rw [show atI (n, ms).2 x = some (mt ms x) from atI_mt ⟨h0, h1⟩]
    rfl
  · intro _ _ _
    rfl
theorem mt_app {ms ys : Ms} {i : Int} (h : 0 ≤ i ∧ i < ms.length) : mt (ms ++ ys) i = mt ms i := by
  unfold mt
  rw [List.getElem?_append_left (by omega)]
theorem mt_last {ms : Ms} {q : Int × Int} : mt (ms ++ [q]) ms.length = q := by
  unfold mt
  rw [Int.toNat_natCast, List.getElem?_append_right (Nat.le_refl _), Nat.sub_self]
  rfl
theorem mt_app_r {ms ys : Ms} {i : Int} (h : 0 ≤ i) : mt (ms ++ ys) (ms.length + i) = mt ys i := by
  unfold mt
  rw [show ((ms.length : Int) + i).toNat = ms.length + i.toNat by omega, List.getElem?_append_right (by omega), show ms.length + i.toNat - ms.length = i.toNat by omega]
theorem conf_app {ms ys : Ms} {plan : List Int} {d : Int} (h : plan.length < ms.length) : conf (ms ++ ys) plan d = conf ms plan d := by
  rw [Bool.eq_iff_iff, conf_iff, conf_iff]
  have : ∀ j : Int, 0 ≤ j → j < plan.length → clash (ms ++ ys) plan.length j = clash ms plan.length j := fun j h0 h1 => by
    unfold clash
    rw [mt_app ⟨by omega, by omega⟩, mt_app ⟨h0, by omega⟩]
  constructor
  · rintro ⟨j, h0, h1, h2, h3⟩
    exact ⟨j, h0, h1, by rw [← this j h0 h1]; exact h2, h3⟩
  · rintro ⟨j, h0, h1, h2, h3⟩
    exact ⟨j, h0, h1, by rw [this j h0 h1]; exact h2, h3⟩
theorem lay_app {ms ys : Ms} {k : Int} : ∀ i : Nat, i ≤ ms.length → Lay (ms ++ ys) k i = Lay ms k i
  | 0, _ => rfl
  | i + 1, h => by
    unfold Lay
    rw [lay_app i (by omega)]
    refine flat_congr fun plan hp => ?_
    have hl := lay_len i plan hp
    congr 1
    refine List.filter_congr fun d _ => ?_
    rw [conf_app (by omega)]
theorem lay_succ {ms : Ms} {k : Int} {i : Nat} : Lay ms k (i + 1) = (Lay ms k i).flatMap fun plan => ((rgI 0 k.toNat).filter fun d => !conf ms plan d).map fun d => plan ++ [d] := rfl
theorem lay_more {ms : Ms} {q : Int × Int} {k : Int} : ((Lay (ms ++ [q]) k (ms ++ [q]).length).length : Int) = ((Lay ms k ms.length).map fun plan => (((rgI 0 k.toNat).filter fun d => !(memB d (tk ms plan q.1) || memB d (tk ms plan q.2))).length : Int)).sum := by
  rw [List.length_append]
  show ((Lay (ms ++ [q]) k (ms.length + 1)).length : Int) = _
  rw [lay_succ, len_flat, lay_app _ (Nat.le_refl _)]
  refine sum_congr fun plan hp => ?_
  have hl := lay_len _ plan hp
  rw [List.length_map]
  congr 2
  refine List.filter_congr fun d _ => ?_
  congr 1
  rw [Bool.eq_iff_iff, conf_iff, Bool.or_eq_true, memB_iff, memB_iff, mem_tk, mem_tk, hl]
  have : ∀ j : Int, 0 ≤ j → j < ms.length → clash (ms ++ [q]) ms.length j = (inP q.1 (mt ms j) || inP q.2 (mt ms j)) := fun j h0 h1 => by
    unfold clash
    rw [mt_last, mt_app ⟨h0, h1⟩]
    rfl
  constructor
  · rintro ⟨j, h0, h1, h2, h3⟩
    rw [this j h0 h1, Bool.or_eq_true] at h2
    exact h2.imp (fun h => ⟨j, h0, h1, h, h3⟩) fun h => ⟨j, h0, h1, h, h3⟩
  · rintro (⟨j, h0, h1, h2, h3⟩ | ⟨j, h0, h1, h2, h3⟩)
    · exact ⟨j, h0, h1, by rw [this j h0 h1, h2]; rfl, h3⟩
    · exact ⟨j, h0, h1, by rw [this j h0 h1, h2, Bool.or_true], h3⟩
theorem one_more_spec {row : List Int} {tot n k c : Int} {ms : Ms} (hn : n ≤ 100) (hm : ms.length ≤ 6) (hk : 0 ≤ k ∧ k ≤ 5) (h0 : 0 ≤ c) (h1 : c ≤ 1000000) : W (t__law_one_more row tot (n, ms) (Lay ms k ms.length) k c) fun p => p.1 = true ∧ c ≤ p.2 ∧ p.2 ≤ c + 2 := by
  unfold t__law_one_more
  by_cases h2 : n < 2
  · rw [if_pos (decide_eq_true h2)]
    exact w_some ⟨rfl, Int.le_refl _, by show c ≤ c + 2; omega⟩
  · rw [if_neg (by rw [decide_eq_true_iff]; exact h2)]
    dsimp only
    refine take_W (by omega) h0 (by omega) fun a a0 a1 => ?_
    dsimp only
    rw [Option.bind_assoc]
    refine take_W (by omega) (by omega) (by omega) fun b b0 b1 => ?_
    rw [Option.bind_some]
    dsimp only
    generalize hb : a + 1 + b = b'
    refine w_eq (lp_sum (f := fun plan => (((rgI 0 k.toNat).filter fun d => !(memB d (tk ms plan a) || memB d (tk ms plan b'))).length : Int)) fun plan hp s => ?_) ?_
    · have hl := lay_len _ plan hp
      rw [free_days_eq (by omega) hl (by omega), Option.bind_some, free_days_eq (by omega) hl (by omega), Option.bind_some, Option.bind_some, Option.bind_some, Option.bind_some, List.map_id', len_eq, List.filter_filter]
      congr 2
      congr 2
      refine List.filter_congr fun d hd => ?_
      rw [Bool.eq_iff_iff, Bool.and_eq_true, memB_iff, List.mem_filter]
      cases memB d (tk ms plan a) <;> cases memB d (tk ms plan b') <;> simp [hd]
    · unfold t_with_meeting
      rw [show catG ((n, ms) : Int × Ms).2 [(a, b')] = some (ms ++ [(a, b')]) from catG_eq (by show ms.length + 1 ≤ _; omega)]
      simp only [Option.bind_some]
      rw [plan_count_eq (by rw [List.length_append]; show ms.length + 1 ≤ 7; omega) (by omega), lay_more]
      simp only [Option.bind_some, same_int]
      exact w_some ⟨decide_eq_true (by omega), by show c ≤ c + 1 + 1; omega, by show c + 1 + 1 ≤ c + 2; omega⟩
theorem tk_nodup {ms : Ms} {k p : Int} {plan : List Int} (hp : plan ∈ Lay ms k ms.length) : (tk ms plan p).Nodup ∧ ∀ x ∈ tk ms plan p, 0 ≤ x ∧ x < k := by
  obtain ⟨h1, h2, h3⟩ := (mem_lay _ _).mp hp
  constructor
  · unfold tk
    refine List.Pairwise.map (R := fun i j : Int => (0 ≤ i ∧ i < ms.length ∧ inP p (mt ms i) = true) ∧ (0 ≤ j ∧ j < ms.length ∧ inP p (mt ms j) = true) ∧ i ≠ j) _ ?_ ?_
    · rintro i j ⟨⟨i0, i1, ip⟩, ⟨j0, j1, jp⟩, hij⟩ e
      have hc : clash ms i j = true := by
        unfold clash
        rw [cl_iff]
        rw [inP_iff] at ip jp
        rcases ip with ip | ip <;> rcases jp with jp | jp
        · exact .inl (.inl (by rw [← ip, ← jp]))
        · exact .inl (.inr (by rw [← ip, ← jp]))
        · exact .inr (.inl (by rw [← ip, ← jp]))
        · exact .inr (.inr (by rw [← ip, ← jp]))
      rcases Int.lt_or_lt_of_ne hij with h | h
      · exact h3 j i i0 h (by omega) (by rw [clash_comm]; exact hc) e.symm
      · exact h3 i j j0 h (by omega) hc e
    · have : ((rgI 0 ms.length).filter fun i => inP p (mt ms i)).Nodup := nodup_filter _ (rgI_nodup _ _)
      refine List.Pairwise.imp_of_mem ?_ this
      intro i j hi hj hij
      obtain ⟨hi, ip⟩ := List.mem_filter.mp hi
      obtain ⟨hj, jp⟩ := List.mem_filter.mp hj
      exact ⟨⟨(mem_rgn.mp hi).1, (mem_rgn.mp hi).2, ip⟩, ⟨(mem_rgn.mp hj).1, (mem_rgn.mp hj).2, jp⟩, hij⟩
  · intro x hx
    obtain ⟨j, j0, j1, _, rfl⟩ := mem_tk.mp hx
    exact h2 _ (gt_mem ⟨j0, by omega⟩)
theorem filter_mt {ms : Ms} (f : Int × Int → Bool) : ((rgI 0 ms.length).filter fun i => f (mt ms i)).length = (ms.filter f).length := by
  have : ms = (rgI 0 ms.length).map (mt ms) := by
    refine List.ext_getElem? fun i => ?_
    rw [List.getElem?_map]
    unfold rgI
    rw [List.getElem?_map]
    by_cases h : i < ms.length
    · rw [List.getElem?_range h]
      show _ = some (mt ms (0 + (i : Int)))
      unfold mt
      rw [List.getElem?_eq_getElem h, Int.zero_add, Int.toNat_natCast, List.getElem?_eq_getElem h]
      rfl
    · rw [List.getElem?_eq_none (by omega), List.getElem?_eq_none (by rw [List.length_range]; omega)]
      rfl
  conv => rhs; rw [this, List.filter_map, List.length_map]
  rfl
theorem new_person_spec {row : List Int} {tot n k c : Int} {ms : Ms} (hw : ∀ p ∈ ms, 0 ≤ p.1 ∧ p.1 < p.2 ∧ p.2 < n) (hn : 0 ≤ n ∧ n ≤ 100) (hm : ms.length ≤ 5) (hk : 0 ≤ k ∧ k ≤ 5) (h0 : 0 ≤ c) (h1 : c ≤ 1000000) : W (t__law_new_person row tot (n, ms) (Lay ms k ms.length) k c) fun p => p.1 = true ∧ c ≤ p.2 ∧ p.2 ≤ c + 2 := by
  unfold t__law_new_person
  by_cases h2 : n = 0
  · rw [if_pos (decide_eq_true h2)]
    exact w_some ⟨rfl, Int.le_refl _, by show c ≤ c + 2; omega⟩
  · rw [if_neg (by rw [decide_eq_true_iff]; exact h2)]
    dsimp only
    refine take_W (by omega) h0 (by omega) fun p p0 p1 => ?_
    dsimp only
    rw [catG_eq (by show ms.length + 1 ≤ _; omega)]
    simp only [Option.bind_some]
    rw [plan_count_eq (by rw [List.length_append]; show ms.length + 1 ≤ 7; omega) (by omega), lay_more]
    simp only [Option.bind_some]
    have hx : max (0 : Int) (k - len ((ms.filter fun y6 => inP p y6).map fun _ => (1 : Int))) ≤ 5 := by
      rw [len_eq]; omega
    rw [mulG_r ⟨by omega, by omega⟩, Option.bind_some]
    simp only [Option.bind_some, same_int]
    refine w_some ⟨decide_eq_true ?_, by show c ≤ c + 1; omega, by show c + 1 ≤ c + 2; omega⟩
    rw [len_eq (Lay ms k ms.length), ← sum_const]
    refine sum_congr fun plan hp => ?_
    obtain ⟨t1, t2⟩ := tk_nodup (p := p) hp
    have hN : ∀ d, memB d (tk ms plan n) = false := fun d => Bool.eq_false_iff.mpr fun z => by
      obtain ⟨j, j0, j1, jp, _⟩ := mem_tk.mp (memB_iff.mp z)
      rw [inP_iff] at jp
      have : mt ms j ∈ ms := by
        unfold mt
        rw [List.getElem?_eq_getElem (show j.toNat < ms.length by omega)]
        exact List.getElem_mem _
      have := hw _ this
      omega
    have := out_part hk.1 t1 t2
    have e : ((rgI 0 k.toNat).filter fun d => !(memB d (tk ms plan p) || memB d (tk ms plan n))) = (rgI 0 k.toNat).filter fun d => !decide (d ∈ tk ms plan p) := List.filter_congr fun d _ => by
      rw [hN d, Bool.or_false]
      rfl
    rw [e, this, len_eq, List.length_map, ← filter_mt (fun y => inP p y)]
    unfold tk at this ⊢
    rw [List.length_map] at this ⊢
    omega
end
end Lw
namespace Lw
open PySem PySem.Spec L2 PL TL
set_option autoImplicit false
noncomputable section
/-! papers of tries: what the judge takes -/
def stuckD (i : Int) : D := .tup [.str "stuck", .int i]
def tryD (i : Int) (xs : List D) : D := .tup [.str "try", .int i, .tup xs]
def Acc (ms : Ms) (k : Int) : Nat → Days → D → Prop
  | 0, _, _ => False
  | n + 1, ds, d => ∃ i, Inr ms i ∧ dhas ds i = false ∧ ((tries ms ds i k = [] ∧ d = stuckD i) ∨
    (∃ xs : List D, tries ms ds i k ≠ [] ∧ xs.length = (tries ms ds i k).length ∧ d = tryD i xs ∧ ∀ (j : Nat) x t, xs[j]? = some x → (tries ms ds i k)[j]? = some t → Acc ms k n (ds ++ [(i, t)]) x))
/-- papers of the right shape, of bounded depth -/
def WF : Nat → D → Prop
  | 0, _ => False
  | n + 1, d => ∃ (w : Str) (i : Int) (xs : List D), PyData.strOk w = true ∧ d = .tup (.str w :: .int i :: xs) ∧ (xs = [] ∨ ∃ ys r, xs = .tup ys :: r ∧ ∀ y ∈ ys, WF n y)
theorem Okd.len {ms : Ms} {k : Int} {ds : Days} (h : Okd ms k ds) : ds.length ≤ ms.length := by
  have : (ds.map (·.1)).length ≤ (rgI 0 ms.length).length := List.Nodup.length_le_of_subset h.1 fun x hx => by
    obtain ⟨p, hp, rfl⟩ := List.mem_map.mp hx
    have := mem_rg (n := (ms.length : Int)) (x := p.1)
    rw [Int.toNat_natCast] at this
    exact this.mpr (h.2 p hp).1
  rw [List.length_map, rgI_len] at this
  exact this
theorem with_day_eq {ds : Days} {i d : Int} (hl : ds.length ≤ 1000) (hn : dhas ds i = false) : t_with_day ds i d = some (ds ++ [(i, d)]) := by
  unfold t_with_day
  rw [dputG_eq (by omega), dput_new hn]
  rfl
theorem tries_in {ms : Ms} {ds : Days} {i k d : Int} (h : d ∈ tries ms ds i k) : 0 ≤ d ∧ d < k := mem_rg.mp (List.mem_filter.mp h).1
theorem tries_len (ms : Ms) (ds : Days) (i k : Int) : (tries ms ds i k).length ≤ k.toNat := by
  unfold tries
  have := List.length_filter_le (tryB ms ds i k) (rgI 0 k.toNat)
  rw [rgI_len] at this
  exact this
end
end Lw
namespace Lw
open PySem PySem.Spec L2 PL TL
set_option autoImplicit false
noncomputable section
/-! the search -/
theorem hardest_spec {m : Int} {ms : Ms} {k : Int} {ds : Days} (hm : ms.length ≤ 1000) (hk : 0 ≤ k ∧ k ≤ 1000) (ho : Okd ms k ds) : W (t_hardest (m, ms) ds k) fun o => (opens ms ds = [] ∧ o = none) ∨ ∃ i, i ∈ opens ms ds ∧ o = some i := by
  unfold t_hardest
  have e : (rg (len (m, ms).2)).bind (fun x3 => some ((x3.filter fun y2 => !dhas ds y2).map fun y2 => y2)) = some (opens ms ds) := by
    rw [rg_eq (by rw [len_eq]; show _ ≤ ((ms.length : Nat) : Int) ∧ ((ms.length : Nat) : Int) ≤ _; omega), Option.bind_some, List.map_id']
    rfl
  refine w_eq e ?_
  by_cases h0 : opens ms ds = []
  · rw [h0]
    exact w_some (.inl ⟨rfl, rfl⟩)
  · rw [if_neg (by rw [decide_eq_true_iff]; exact fun z => h0 (List.eq_nil_of_length_eq_zero (by rw [len_eq] at z; omega)))]
    rw [mpM_eq (g := fun i => (len (tries ms ds i k), i))]
    · rw [Option.bind_some]
      cases h1 : opens ms ds with
      | nil => exact absurd h1 h0
      | cons a l =>
        have : ∀ (l : List (Int × Int)) (x : Int × Int), (l.foldl (fun a y => if TL.ltP y a = true then y else a) x) ∈ x :: l := by
          intro l
          induction l with
          | nil => intro x; exact List.mem_singleton.mpr rfl
          | cons b l ih =>
            intro x
            rw [List.foldl_cons]
            have := ih (if TL.ltP b x = true then b else x)
            rcases List.mem_cons.mp this with h | h
            · rw [h]
              split
              · exact List.mem_cons_of_mem _ List.mem_cons_self
              · exact List.mem_cons_self
            · exact List.mem_cons_of_mem _ (List.mem_cons_of_mem _ h)
        have hm := this ((l.map fun i => (len (tries ms ds i k), i))) (len (tries ms ds a k), a)
        rw [show ((len (tries ms ds a k), a) :: (l.map fun i => (len (tries ms ds i k), i))) = (a :: l).map (fun i => (len (tries ms ds i k), i)) from rfl] at hm
        obtain ⟨i, hi, e⟩ := List.mem_map.mp hm
        refine ⟨some i, ?_, .inr ⟨i, hi, rfl⟩⟩
        show some (some ((l.map fun i => (len (tries ms ds i k), i)).foldl (fun a y => if TL.ltP y a = true then y else a) (len (tries ms ds a k), a)).2) = _
        rw [← e]
    · intro i hi
      rw [days_to_try_eq hm hk (mem_opens.mp hi).1 ho]
      rfl
theorem all_set {ms : Ms} {k : Int} {ds : Days} (ho : Okd ms k ds) (hp : Pd ms ds) (h0 : opens ms ds = []) : ∃ c, Proper ms k c ∧ ExtD ds c := by
  have hg : ∀ i, Inr ms i → ∃ d, dgetL ds i = some d := fun i hi => by
    cases h : dhas ds i with
    | true => exact dhas_get2 h
    | false =>
      have := mem_opens.mpr ⟨hi, h⟩
      rw [h0] at this
      exact nomatch this
  refine ⟨fun i => (dgetL ds i).getD 0, ⟨fun i hi => ?_, fun i j hi hj hij hc e => ?_⟩, fun p hp => ?_⟩
  · obtain ⟨d, hd⟩ := hg i hi
    show 0 ≤ (dgetL ds i).getD 0 ∧ (dgetL ds i).getD 0 < k
    rw [hd]
    exact (ho.2 _ (dgetL_some hd)).2
  · obtain ⟨d, hd⟩ := hg i hi
    obtain ⟨d', hd'⟩ := hg j hj
    have e : (dgetL ds i).getD 0 = (dgetL ds j).getD 0 := e
    rw [hd, hd'] at e
    exact hp _ (dgetL_some hd) _ (dgetL_some hd') hij hc e
  · show (dgetL ds p.1).getD 0 = p.2
    rw [dgetL_mem ho.1 hp]; rfl
theorem extD_sub {ds : Days} {i d : Int} {c : Int → Int} (h : ExtD (ds ++ [(i, d)]) c) : ExtD ds c := fun p hp => h p (List.mem_append_left _ hp)
theorem searched_spec {m : Int} {ms : Ms} {k : Int} (hm : ms.length ≤ 1000) (hk : 0 ≤ k ∧ k ≤ 1000) : ∀ (r n : Nat) (ds : Days), (opens ms ds).length ≤ r → r < n → Okd ms k ds → Pd ms ds →
    W (t_searched n (m, ms) k ds) fun p => (p.2 = D.non ∧ (∃ c, Proper ms k c ∧ ExtD ds c) ∧ ∃ ds', p.1 = some ds' ∧ Okd ms k ds' ∧ Pd ms ds' ∧ opens ms ds' = []) ∨ (Acc ms k (r + 1) ds p.2 ∧ ¬ ∃ c, Proper ms k c ∧ ExtD ds c)
  | r, 0, ds, hr, hn, ho, hp => by omega
  | r, n + 1, ds, hr, hn, ho, hp => by
    unfold t_searched
    have hdl := ho.len
    refine w_bind (hardest_spec (m := m) hm hk ho) fun o h => ?_
    rcases h with ⟨h0, rfl⟩ | ⟨i, hi, rfl⟩
    · exact w_some (.inl ⟨rfl, all_set ho hp h0, ds, rfl, ho, hp, h0⟩)
    · obtain ⟨hir, hh⟩ := mem_opens.mp hi
      have htl := tries_len ms ds i k
      simp only [Option.bind_some, days_to_try_eq hm hk hir ho]
      rw [if_neg (show ¬ (some i).isNone = true from Bool.false_ne_true)]
      by_cases h0 : len (tries ms ds i k) = 0
      · rw [if_pos (decide_eq_true h0)]
        have h0' : tries ms ds i k = [] := List.eq_nil_of_length_eq_zero (by rw [len_eq] at h0; omega)
        refine w_some (.inr ⟨⟨i, hir, hh, .inl ⟨h0', rfl⟩⟩, ?_⟩)
        rintro ⟨c, h1, h2⟩
        obtain ⟨d, c', h3, _⟩ := some_try ho hir hh h1 h2
        rw [h0'] at h3
        exact nomatch h3
      · rw [if_neg (by rw [decide_eq_true_iff]; exact h0)]
        have h0' : tries ms ds i k ≠ [] := fun z => h0 (by rw [z]; rfl)
        have r0 : 0 < r := by
          have := List.length_pos_of_mem hi
          omega
        obtain ⟨r', rfl⟩ : ∃ r', r = r' + 1 := ⟨r - 1, by omega⟩
        refine w_behind (w_lpX (fun j (s : List D) => s.length = j ∧ (∀ (j' : Nat) x t, s[j']? = some x → (tries ms ds i k)[j']? = some t → Acc ms k (r' + 1) (ds ++ [(i, t)]) x) ∧ ∀ (j' : Nat) t, j' < j → (tries ms ds i k)[j']? = some t → ¬ ∃ c, Proper ms k c ∧ ExtD (ds ++ [(i, t)]) c) (fun _ => False)
          (fun p => p.2 = D.non ∧ (∃ c, Proper ms k c ∧ ExtD ds c) ∧ ∃ ds', p.1 = some ds' ∧ Okd ms k ds' ∧ Pd ms ds' ∧ opens ms ds' = []) ⟨rfl, fun j' x t h => (nomatch h), fun j' t h => absurd h (Nat.not_lt_zero _)⟩ ?_) ?_ ?_
        · rintro j t s ht ⟨s1, s2, s3⟩
          have hjl := (List.getElem?_eq_some_iff.mp ht).1
          have htm := List.mem_of_getElem? ht
          have ho' := ho.put hir (tries_in htm) hh
          have hlt : (opens ms (ds ++ [(i, t)])).length < (opens ms ds).length := opens_put hi
          simp only [with_day_eq (by omega) hh, Option.bind_some]
          refine w_bind (searched_spec hm hk r' n _ (by omega) (by omega) ho' (hp.put ho htm hh)) fun p hp' => ?_
          rcases hp' with ⟨e, ⟨c, h1, h2⟩, hf⟩ | ⟨h1, h2⟩
          · rw [e]
            refine w_eq (a := true) rfl ?_
            rw [if_pos rfl]
            exact w_some ⟨rfl, ⟨c, h1, extD_sub h2⟩, hf⟩
          · have e : isNoneD p.2 = some false := by
              obtain ⟨_, _, _, h | ⟨_, _, _, h, _⟩⟩ := h1
              · rw [h.2]; rfl
              · rw [h]; rfl
            refine w_eq e ?_
            rw [if_neg (by decide)]
            refine w_eq (snoc_eq (by omega)) (w_some ⟨by simp [s1], fun j' x t' hx ht' => ?_, fun j' t' hj ht' => ?_⟩)
            · by_cases ej : j' < s.length
              · rw [List.getElem?_append_left ej] at hx
                exact s2 j' x t' hx ht'
              · rw [List.getElem?_append_right (by omega)] at hx
                have : j' - s.length = 0 := by
                  have := (List.getElem?_eq_some_iff.mp hx).1
                  simp at this
                  omega
                rw [this] at hx
                have ej2 : j' = j := by omega
                rw [ej2, ht] at ht'
                cases hx
                cases ht'
                exact h1
            · by_cases ej : j' = j
              · rw [ej, ht] at ht'
                cases ht'
                exact h2
              · exact s3 j' t' (by omega) ht'
        · intro s hs
          rcases hs with ⟨s1, s2, s3⟩ | hs
          · refine w_some (.inr ⟨⟨i, hir, hh, .inr ⟨s, h0', s1, ?_, s2⟩⟩, ?_⟩)
            · show D.tup [.str "try", .int i, .tup (s.map id)] = _
              rw [List.map_id]
              rfl
            · rintro ⟨c, h1, h2⟩
              obtain ⟨d, c', h3, h4, h5⟩ := some_try ho hir hh h1 h2
              obtain ⟨j, hj⟩ := List.mem_iff_getElem?.mp h3
              exact s3 j d (List.getElem?_eq_some_iff.mp hj).1 hj ⟨c', h4, h5⟩
          · exact hs.elim
        · exact fun p hp => .inl hp
theorem opens_nil (ms : Ms) : (opens ms []).length = ms.length := by
  have : opens ms [] = rgI 0 ms.length := by
    unfold opens
    exact List.filter_eq_self.mpr fun _ _ => rfl
  rw [this, rgI_len]
theorem isNone_acc {ms : Ms} {k : Int} {n : Nat} {ds : Days} {d : D} (h : Acc ms k n ds d) : isNoneD d = some false := by
  cases n with
  | zero => exact h.elim
  | succ n =>
    obtain ⟨_, _, _, h | ⟨_, _, _, h, _⟩⟩ := h
    · rw [h.2]; rfl
    · rw [h]; rfl
theorem okd_nil (ms : Ms) (k : Int) : Okd ms k [] := ⟨List.nodup_nil, fun _ h => nomatch h⟩
theorem pd_nil (ms : Ms) : Pd ms [] := fun _ h => nomatch h
end
end Lw
namespace Lw
open PySem PySem.Spec L2 PL TL
set_option autoImplicit false
noncomputable section
def mv (n : Int) (ys : Ms) : Ms := ys.map fun y1 => (y1.1 + n, y1.2 + n)
theorem mt_mv {n : Int} {ys : Ms} {j : Int} (h : 0 ≤ j ∧ j < ys.length) : mt (mv n ys) j = ((mt ys j).1 + n, (mt ys j).2 + n) := by
  unfold mt mv
  rw [List.getElem?_map, List.getElem?_eq_getElem (show j.toNat < ys.length by omega)]
  rfl
theorem mt_in {ms : Ms} {j : Int} (h : 0 ≤ j ∧ j < ms.length) : mt ms j ∈ ms := by
  unfold mt
  rw [List.getElem?_eq_getElem (show j.toNat < ms.length by omega)]
  exact List.getElem_mem _
theorem gt_app_r {xs ys : List Int} {j : Int} (h : 0 ≤ j) : gt (xs ++ ys) (xs.length + j) = gt ys j := by
  unfold gt
  rw [show ((xs.length : Int) + j).toNat = xs.length + j.toNat by omega, List.getElem?_append_right (by omega), show xs.length + j.toNat - xs.length = j.toNat by omega]
theorem conf_join {n : Int} {ms ys : Ms} (hw : ∀ p ∈ ms, p.1 < n ∧ p.2 < n) (hy : ∀ p ∈ ys, 0 ≤ p.1 ∧ 0 ≤ p.2) {p r : List Int} (hp : p.length = ms.length) (hr : r.length < ys.length) (d : Int) : conf (ms ++ mv n ys) (p ++ r) d = conf ys r d := by
  rw [Bool.eq_iff_iff, conf_iff, conf_iff]
  have e0 : ((p ++ r).length : Int) = (ms.length : Int) + (r.length : Int) := by rw [List.length_append, hp]; omega
  rw [e0]
  have em : mt (ms ++ mv n ys) ((ms.length : Int) + (r.length : Int)) = ((mt ys r.length).1 + n, (mt ys r.length).2 + n) := by
    rw [mt_app_r (by omega), mt_mv ⟨by omega, by omega⟩]
  have hq := hy _ (mt_in (ms := ys) (j := r.length) ⟨by omega, by omega⟩)
  have c1 : ∀ j : Int, 0 ≤ j → j < ms.length → clash (ms ++ mv n ys) ((ms.length : Int) + (r.length : Int)) j = false := fun j h0 h1 => by
    have := hw _ (mt_in (ms := ms) ⟨h0, h1⟩)
    refine Bool.eq_false_iff.mpr fun z => ?_
    unfold clash at z
    rw [em, mt_app ⟨h0, h1⟩, cl_iff] at z
    dsimp only at z
    omega
  have c2 : ∀ j : Int, 0 ≤ j → j < r.length → clash (ms ++ mv n ys) ((ms.length : Int) + (r.length : Int)) ((ms.length : Int) + j) = clash ys r.length j := fun j h0 h1 => by
    unfold clash
    rw [em, mt_app_r h0, mt_mv ⟨h0, by omega⟩, Bool.eq_iff_iff, cl_iff, cl_iff]
    dsimp only
    omega
  constructor
  · rintro ⟨j, h0, h1, h2, h3⟩
    by_cases hj : j < ms.length
    · rw [c1 j h0 hj] at h2
      exact nomatch h2
    · have ej : j = (ms.length : Int) + (j - ms.length) := by omega
      rw [ej] at h2 h3
      rw [c2 _ (by omega) (by omega)] at h2
      rw [← hp, gt_app_r (by omega)] at h3
      exact ⟨j - p.length, by omega, by omega, by rw [hp]; exact h2, h3⟩
  · rintro ⟨j, h0, h1, h2, h3⟩
    exact ⟨(ms.length : Int) + j, by omega, by omega, by rw [c2 j h0 h1]; exact h2, by rw [← hp, gt_app_r h0]; exact h3⟩
theorem lay_join {n : Int} {ms ys : Ms} {k : Int} (hw : ∀ p ∈ ms, p.1 < n ∧ p.2 < n) (hy : ∀ p ∈ ys, 0 ≤ p.1 ∧ 0 ≤ p.2) : ∀ i : Nat, i ≤ ys.length → Lay (ms ++ mv n ys) k (ms.length + i) = (Lay ms k ms.length).flatMap fun p => (Lay ys k i).map fun r => p ++ r
  | 0, _ => by
    rw [Nat.add_zero, lay_app _ (Nat.le_refl _)]
    show _ = (Lay ms k ms.length).flatMap fun p => [p ++ []]
    induction Lay ms k ms.length with
    | nil => rfl
    | cons p l ih => rw [List.flatMap_cons, ← ih, List.append_nil]; rfl
  | i + 1, h => by
    show (Lay (ms ++ mv n ys) k (ms.length + i)).flatMap _ = _
    rw [lay_join hw hy i (by omega), List.flatMap_assoc]
    refine flat_congr fun p hp => ?_
    have hpl := lay_len _ p hp
    show _ = ((Lay ys k i).flatMap _).map _
    rw [List.flatMap_map, List.map_flatMap]
    refine flat_congr fun r hr => ?_
    have hrl := lay_len _ r hr
    rw [List.map_map]
    have : ((rgI 0 k.toNat).filter fun d => !conf (ms ++ mv n ys) (p ++ r) d) = (rgI 0 k.toNat).filter fun d => !conf ys r d := List.filter_congr fun d _ => by rw [conf_join hw hy hpl (by omega)]
    rw [this]
    refine List.map_congr_left fun d _ => ?_
    show p ++ r ++ [d] = p ++ (r ++ [d])
    rw [List.append_assoc]
theorem beside_spec {n n' k : Int} {ms ys : Ms} (hw : ∀ p ∈ ms, p.1 < n ∧ p.2 < n) (hy : ∀ p ∈ ys, 0 ≤ p.1 ∧ 0 ≤ p.2) (hm : ms.length ≤ 4) (hm' : ys.length ≤ 3) (hk : 0 ≤ k ∧ k ≤ 5) : t__law_beside (n, ms) (n', ys) k = some true := by
  unfold t__law_beside
  dsimp only
  rw [show (List.map (fun y1 : Int × Int => (y1.1 + n, y1.2 + n)) ys) = mv n ys from rfl, catG_eq (by unfold mv; rw [List.length_map]; omega)]
  simp only [Option.bind_some]
  rw [plan_count_eq (by rw [List.length_append]; unfold mv; rw [List.length_map]; omega) (by omega), lay_eq (by omega) hk, lay_eq (by omega) hk]
  simp only [Option.bind_some]
  have hc := lay_card (ms := ms) hk ms.length
  have hp5 : 5 ^ ms.length ≤ 3125 := by
    have : ∀ j : Fin 6, 5 ^ (j : Nat) ≤ 3125 := by decide
    exact this ⟨ms.length, by omega⟩
  rw [mulG_l ⟨by rw [len_eq]; omega, by rw [len_eq]; omega⟩]
  simp only [Option.bind_some, same_int]
  refine congrArg some (decide_eq_true ?_)
  have e1 : (ms ++ mv n ys).length = ms.length + ys.length := by rw [List.length_append]; unfold mv; rw [List.length_map]
  rw [e1, lay_join hw hy _ (Nat.le_refl _), len_flat, len_eq, len_eq, ← sum_const]
  exact sum_congr fun p _ => by rw [List.length_map]
theorem counted_spec {row : List Int} {tot n c : Int} {ms : Ms} (hm : ms.length ≤ 4) (h0 : 0 ≤ c) (h1 : c ≤ 1000000) : W (t__law_counted row tot (n, ms) c) fun p => p.1 = true ∧ c ≤ p.2 ∧ p.2 ≤ c + 1 := by
  unfold t__law_counted
  refine w_eq (law_groups_eq (by omega)) ?_
  have hl : len ((rgI 0 (ms.length + 2)).map fun g => ((szs ms ms.length).count g : Int)) = (ms.length + 2 : Nat) := by rw [len_eq, List.length_map, rgI_len]
  rw [hl]
  refine rg_W (by omega) ?_
  have hat : ∀ g : Int, 0 ≤ g → g < (ms.length + 2 : Nat) → atI ((rgI 0 (ms.length + 2)).map fun g => ((szs ms ms.length).count g : Int)) g = some ((szs ms ms.length).count g : Int) := fun g g0 g1 => by
    rw [atI_nn ⟨g0, by rw [List.length_map, rgI_len]; omega⟩, List.getElem?_map]
    unfold rgI
    rw [List.getElem?_map, List.getElem?_range (by omega)]
    show some ((((szs ms ms.length).count ((0 : Int) + (g.toNat : Int)) : Nat) : Int)) = some _
    rw [show (0 : Int) + (g.toNat : Int) = g by omega]
  refine w_behind (w_lpX (fun _ _ => True) (fun _ => False) (fun _ => False) trivial ?_) ?_ (fun r h => h.elim)
  · intro i y _ hy _
    obtain ⟨rfl, hlt⟩ := rg_get hy
    rw [group_count_eq (by omega), hat _ (by omega) hlt]
    simp only [Option.bind_some, same_int]
    rw [if_neg (by simp)]
    exact w_some trivial
  · intro _ _
    rw [Option.bind_assoc]
    refine take_W (by decide) h0 (by omega) fun v v0 v1 => ?_
    rw [Option.bind_some]
    dsimp only
    generalize hg : 5 + v = great
    have hcard : (szs ms ms.length).length ≤ 5040 := Nat.le_trans (szs_card ms _) (fct_le (by omega))
    have hcnt : ∀ g : Int, (szs ms ms.length).count g ≤ 5040 := fun g => Nat.le_trans List.count_le_length hcard
    rw [plan_count_sum (by omega) (by omega), rg_eq (by omega)]
    simp only [Option.bind_some]
    rw [mpM_eq (g := fun g => ((szs ms ms.length).count g : Int) * fall great g.toNat)]
    · simp only [Option.bind_some, same_int]
      refine w_some ⟨decide_eq_true ?_, by show c ≤ c + 1; omega, by show c + 1 ≤ c + 1; omega⟩
      rw [Int.toNat_natCast, count_sum (f := fun z => fall great z.toNat)]
      intro z hz
      have := szs_in hz
      omega
    · intro g hg'
      obtain ⟨g0, g1⟩ := mem_rg.mp hg'
      have := hcnt g
      rw [hat g g0 g1, Option.bind_some, falling_eq (by omega) (by omega), Option.bind_some, mulG_l ⟨by omega, by omega⟩]
theorem notNone_acc {ms : Ms} {k : Int} {n : Nat} {ds : Days} {d : D} (h : Acc ms k n ds d) : notNoneD d = some true := by
  cases n with
  | zero => exact h.elim
  | succ n =>
    obtain ⟨_, _, _, h | ⟨_, _, _, h, _⟩⟩ := h
    · rw [h.2]; rfl
    · rw [h]; rfl
theorem within_spec {n k : Int} {ms : Ms} (hm : ms.length ≤ 12) (hk : 0 ≤ k ∧ k ≤ 1000) : W (t_plan_within (n, ms) k) fun o => (o = none ∧ Lay ms k ms.length = []) ∨ ∃ p, o = some p ∧ p ∈ Lay ms k ms.length := by
  unfold t_plan_within
  refine w_bind (searched_spec (m := n) (by omega) hk ms.length 20 [] (by rw [opens_nil]; omega) (by omega) (okd_nil ms k) (pd_nil ms)) fun p hp => ?_
  rcases hp with ⟨e, _, ds, e1, h1, h2, h3⟩ | ⟨h1, h2⟩
  · rw [e, e1]
    refine w_eq (a := false) rfl ?_
    rw [if_neg (by decide)]
    have e0 : len (n, ms).2 = (ms.length : Int) := rfl
    have hg : ∀ i, 0 ≤ i → i < (ms.length : Int) → ∃ d, dgetL ds i = some d := fun i i0 i1 => by
      cases h : dhas ds i with
      | true => exact dhas_get2 h
      | false =>
        have := mem_opens.mpr ⟨⟨i0, i1⟩, h⟩
        rw [h3] at this
        exact nomatch this
    rw [e0, rg_eq (by omega), Option.bind_some, mpM_eq (g := fun i => (dgetL ds i).getD 0)]
    · simp only [Option.bind_some]
      refine w_some (.inr ⟨_, rfl, (mem_lay _ _).mpr ⟨by rw [List.length_map, rgI_len]; omega, ?_, ?_⟩⟩)
      · intro x hx
        obtain ⟨i, hi, rfl⟩ := List.mem_map.mp hx
        obtain ⟨i0, i1⟩ := mem_rg.mp hi
        obtain ⟨d, hd⟩ := hg i i0 i1
        rw [hd]
        exact (h1.2 _ (dgetL_some hd)).2
      · intro a b b0 ba al hc
        rw [List.length_map, rgI_len] at al
        have hgt : ∀ i : Int, 0 ≤ i → i < ms.length → gt ((rgI 0 (ms.length : Int).toNat).map fun i => (dgetL ds i).getD 0) i = (dgetL ds i).getD 0 := fun i i0 i1 => by
          unfold gt rgI
          rw [List.getElem?_map, List.getElem?_map, List.getElem?_range (by omega)]
          show (dgetL ds (0 + (i.toNat : Int))).getD 0 = _
          rw [show (0 : Int) + (i.toNat : Int) = i by omega]
        rw [hgt a (by omega) (by omega), hgt b b0 (by omega)]
        obtain ⟨d, hd⟩ := hg a (by omega) (by omega)
        obtain ⟨d', hd'⟩ := hg b b0 (by omega)
        rw [hd, hd']
        exact h2 _ (dgetL_some hd) _ (dgetL_some hd') (by show a ≠ b; omega) hc
    · intro i hi
      obtain ⟨i0, i1⟩ := mem_rg.mp hi
      obtain ⟨d, hd⟩ := hg i i0 i1
      rw [Option.bind_some, hd]
      rfl
  · refine w_eq (notNone_acc h1) ?_
    rw [if_pos rfl]
    refine w_some (.inl ⟨rfl, List.eq_nil_iff_forall_not_mem.mpr fun p hp => ?_⟩)
    obtain ⟨p1, p2, p3⟩ := (mem_lay _ _).mp hp
    refine h2 ⟨gt p, ⟨fun i hi => p2 _ (gt_mem ⟨hi.1, by have := hi.2; omega⟩), fun i j hi hj hij hc => ?_⟩, fun _ h => nomatch h⟩
    rcases Int.lt_or_lt_of_ne hij with h | h
    · exact fun e => p3 j i hi.1 h (by have := hj.2; omega) (by rw [clash_comm]; exact hc) e.symm
    · exact p3 i j hj.1 h (by have := hi.2; omega) hc
theorem pure_t (ns row : List Int) (tot : Int) : ∃ c, t_law ns row tot 0 = some (true, c) := by
  suffices h : W (t_law ns row tot 0) fun p => p.1 = true by
    obtain ⟨⟨b, c⟩, e, h⟩ := h
    have h : b = true := h
    exact ⟨c, by rw [e, h]⟩
  unfold t_law
  refine w_bind (web_spec (by decide) (by decide) (by decide)) ?_
  rintro ⟨⟨n, ms⟩, c⟩ ⟨hw, hn, c0, c1⟩
  dsimp only at hw hn c0 c1 ⊢
  have hml := hw.len
  have hn0 := hw.n0
  rw [Option.bind_assoc]
  refine w_bind (counted_spec (by omega) c0 (by omega)) ?_
  rintro ⟨b, c'⟩ ⟨hb, c2, c3⟩
  dsimp only at hb c2 c3
  subst hb
  rw [Option.bind_some]
  dsimp only
  rw [if_neg (by decide)]
  refine rg_W (by decide) ?_
  refine w_behind (w_lpX (fun i (s : Int) => 0 ≤ s ∧ s ≤ 1000 + 10 * (i : Int)) (fun _ => False) (fun _ : Bool × Int => False) ⟨by omega, by omega⟩ ?_) ?_ (fun r h => False.elim h)
  · rintro i y s hy ⟨s0, s1⟩
    obtain ⟨rfl, hlt⟩ := rg_get hy
    rw [lay_eq (by omega) ⟨by omega, by omega⟩, Option.bind_some, plan_count_eq (by omega) ⟨by omega, by omega⟩]
    simp only [Option.bind_some, same_int]
    rw [len_eq, if_neg (by simp)]
    refine w_bind (within_spec (by omega) ⟨by omega, by omega⟩) fun o ho => ?_
    have hin : (if (!decide (o.isNone = (decide (((Lay ms i ms.length).length : Int) = (0 : Int))))) = true then some true else if o.isSome = true then if (!(if o.isSome = true then true else false)) = true then some true else (o).bind fun x26 => some (!memB x26 (Lay ms i ms.length)) else some false) = some false := by
      rcases ho with ⟨rfl, h⟩ | ⟨p, rfl, h⟩
      · rw [h]; rfl
      · have : ¬ ((Lay ms i ms.length).length : Int) = 0 := by
          have := List.length_pos_of_mem h
          omega
        rw [decide_eq_false this]
        show some (!memB p (Lay ms i ms.length)) = _
        rw [memB_iff.mpr h]
        rfl
    refine w_eq hin ?_
    rw [if_neg (by decide), Option.bind_assoc, Option.bind_assoc]
    refine w_bind (one_more_spec (by omega) (by omega) ⟨by omega, by omega⟩ s0 (by omega)) ?_
    rintro ⟨b1, d1⟩ ⟨hb, d2, d3⟩
    dsimp only at hb d2 d3
    subst hb
    rw [Option.bind_some]
    dsimp only
    rw [if_neg (by decide), Option.bind_assoc]
    refine w_bind (new_person_spec hw.good ⟨hn0, by omega⟩ (by omega) ⟨by omega, by omega⟩ (by omega) (by omega)) ?_
    rintro ⟨b1, d4⟩ ⟨hb, d5, d6⟩
    dsimp only at hb d5 d6
    subst hb
    rw [Option.bind_some]
    dsimp only
    rw [if_neg (by decide)]
    exact w_some ⟨by omega, by omega⟩
  · rintro s (⟨s0, s1⟩ | h)
    · rw [rgI_len] at s1
      have s1 : s ≤ 1000 + 10 * ((5 : Nat) : Int) := s1
      simp only [Option.bind_assoc]
      refine w_bind (few_spec (lim := 4) (by decide) s0 (by omega)) ?_
      rintro ⟨⟨n', ys⟩, c4⟩ ⟨hw', hn', hl', c5, c6⟩
      dsimp only at hw' hn' hl' c5 c6
      refine take_W (by decide) (by omega) (by omega) fun v v0 v1 => ?_
      simp only [Option.bind_some]
      rw [beside_spec (fun p hp => by have := hw.good p hp; omega) (fun p hp => by have := hw'.good p hp; omega) (by omega) (by omega) ⟨v0, by omega⟩]
      exact w_some rfl
    · exact h.elim
theorem pure_law (ns : List Int) (hn : ns.length ≤ 63) : ∃ m', m_law [.d (.scr ns)] [] = some (.d (.bl true), m') := law_of (pure_t ns) hn
end
end Lw
namespace Lw
open PySem PySem.Spec L2 PL
set_option autoImplicit false
def topS (i : Nat) : Stmt := PySem.Challenge.pw_meetingdays_k15_whole_counts_of_plans.main.body.getD i (.Pass ⟨0, 0, 0, 0⟩)
structure Tops (K : PySem.W.Frag) (mg : Str → Option Value) : Prop where
  z_abs : mg "abs" = none
  z_bool : mg "bool" = none
  z_dict : mg "dict" = none
  z_int : mg "int" = none
  z_isinstance : mg "isinstance" = none
  z_len : mg "len" = none
  z_list : mg "list" = none
  z_max : mg "max" = none
  z_min : mg "min" = none
  z_range : mg "range" = none
  z_str : mg "str" = none
  z_sum : mg "sum" = none
  z_tuple : mg "tuple" = none
  c_STUCK : ∃ u, mg "STUCK" = some u ∧ RelV (.str ("stuck" : Str)) u
  c_TRY : ∃ u, mg "TRY" = some u ∧ RelV (.str ("try" : Str)) u
section
variable {P : Program} {w : World} {K : PySem.W.Frag} {mg : Str → Option Value} {base : Heap}

abbrev s_meetings_of : Stmt := topS 1
theorem sc_meetings_of : FnScope ["web", "person", "i"] ["web", "person"] (defScope s_meetings_of) := ⟨rfl, rfl, rfl, by decide +kernel, rfl, by decide +kernel, by decide +kernel⟩
theorem ok_meetings_of {a : Addr} {fd : FuncData} (T : Tops K mg) (Z : At K mg "meetings_of" ["web", "person"] s_meetings_of a fd) : Fn P w K mg base 1 "meetings_of" 2 m_meetings_of := by
  refine fn_at (lev := 0) (n := 2) (k := 1) (body := b_meetings_of) Z sc_meetings_of rfl rfl ?_
  intro cdv A outer s H E hr
  exact (r_one (r_ret (r_lc (own := [("i", 2)]) rfl sc_meetings_of.nd (r_range1 (by rfl) T.z_range (q_len T.z_len (q_ix (r_var (pv 0)) r_int))) (blkOk_by (by kernel_rfl)) (tgOk_name (i := 2) (vs := [2]) (by decide)) (fun _ _ _ _ _ => (pg_name (i := 2) sc_meetings_of.nd rfl (by first | exact Or.inl rfl | exact Or.inr rfl))) (fun _ _ _ _ _ => (r_ifs1 (q_cmpT (c_in (u65 hr)) (r_var (pv 1)) (q_ix (q_ix (r_var (pv 0)) r_int) (r_var (pv 2)))))) (fun _ _ _ _ _ => (r_var (pv 2))))))
abbrev s_clash : Stmt := topS 2
theorem sc_clash : FnScope ["web", "i", "j", "a", "b"] ["web", "i", "j"] (defScope s_clash) := ⟨rfl, rfl, rfl, by decide +kernel, rfl, by decide +kernel, by decide +kernel⟩
theorem ok_clash {a : Addr} {fd : FuncData} (T : Tops K mg) (Z : At K mg "clash" ["web", "i", "j"] s_clash a fd) : Fn P w K mg base 1 "clash" 3 m_clash := by
  refine fn_at (lev := 0) (n := 3) (k := 2) (body := b_clash) Z sc_clash rfl rfl ?_
  intro cdv A outer s H E hr
  exact (r_cons (r_asgT (is := [3, 4]) rfl (q_ix (q_ix (r_var (pv 0)) r_int) (r_var (pv 1))) (pgs_cons (pg_name (i := 3) sc_clash.nd rfl (by first | exact Or.inl rfl | exact Or.inr rfl)) (pgs_cons (pg_name (i := 4) sc_clash.nd rfl (by first | exact Or.inl rfl | exact Or.inr rfl)) pgs_nil)))
    (r_one (r_ret (r_eor (q_cmp (c_in (u65 hr)) (r_var (pv 3)) (q_ix (q_ix (r_var (pv 0)) r_int) (r_var (pv 2)))) (r_eone (q_cmp (c_in (u65 hr)) (r_var (pv 4)) (q_ix (q_ix (r_var (pv 0)) r_int) (r_var (pv 2)))))))))
abbrev s_clashing : Stmt := topS 3
theorem sc_clashing : FnScope ["web", "i", "j"] ["web", "i"] (defScope s_clashing) := ⟨rfl, rfl, rfl, by decide +kernel, rfl, by decide +kernel, by decide +kernel⟩
theorem ok_clashing {a : Addr} {fd : FuncData} (T : Tops K mg) (Z : At K mg "clashing" ["web", "i"] s_clashing a fd) (G_clash : Fn P w K mg base 1 "clash" 3 m_clash) : Fn P w K mg base 2 "clashing" 2 m_clashing := by
  refine fn_at (lev := 1) (n := 2) (k := 1) (body := b_clashing) Z sc_clashing rfl rfl ?_
  intro cdv A outer s H E hr
  exact (r_one (r_ret (r_lc (own := [("j", 2)]) rfl sc_clashing.nd (r_range1 (by rfl) T.z_range (q_len T.z_len (q_ix (r_var (pv 0)) r_int))) (blkOk_by (by kernel_rfl)) (tgOk_name (i := 2) (vs := [2]) (by decide)) (fun _ _ _ _ _ => (pg_name (i := 2) sc_clashing.nd rfl (by first | exact Or.inl rfl | exact Or.inr rfl))) (fun _ _ _ _ _ => (r_ifs1 (r_and (q_cmpT (c_ne (u64 hr)) (r_var (pv 2)) (r_var (pv 1))) (r_and1 (r_val (r_call (G_clash.mono (by omega)) hr (by rfl) (aCons_len (aCons_len (aCons_len aNil_len))) (r_acons (r_var (pv 0)) (r_acons (r_var (pv 1)) (r_acons (r_var (pv 2)) r_anil))))))).pt)) (fun _ _ _ _ _ => (r_var (pv 2))))))
abbrev s_with_meeting : Stmt := topS 4
theorem sc_with_meeting : FnScope ["web", "a", "b"] ["web", "a", "b"] (defScope s_with_meeting) := ⟨rfl, rfl, rfl, by decide +kernel, rfl, by decide +kernel, by decide +kernel⟩
theorem ok_with_meeting {a : Addr} {fd : FuncData} (T : Tops K mg) (Z : At K mg "with_meeting" ["web", "a", "b"] s_with_meeting a fd) : Fn P w K mg base 1 "with_meeting" 3 m_with_meeting := by
  refine fn_at (lev := 0) (n := 3) (k := 0) (body := b_with_meeting) Z sc_with_meeting rfl rfl ?_
  intro cdv A outer s H E hr
  exact (r_one (r_ret (r_tup (r_acons (q_ix (r_var (pv 0)) r_int) (r_acons (q_add (q_ix (r_var (pv 0)) r_int) (r_tup (r_acons (r_tup (r_acons (r_var (pv 1)) (r_acons (r_var (pv 2)) r_anil))) r_anil))) r_anil)))))
abbrev s_groupings : Stmt := topS 6
theorem sc_groupings : FnScope ["web", "level", "i", "later", "sets", "n", "found", "j"] ["web"] (defScope s_groupings) := ⟨rfl, rfl, rfl, by decide +kernel, rfl, by decide +kernel, by decide +kernel⟩
theorem ok_groupings {a : Addr} {fd : FuncData} (T : Tops K mg) (Z : At K mg "groupings" ["web"] s_groupings a fd) (G_clash : Fn P w K mg base 1 "clash" 3 m_clash) : Fn P w K mg base 2 "groupings" 1 m_groupings := by
  refine fn_at (lev := 1) (n := 1) (k := 7) (body := b_groupings) Z sc_groupings rfl rfl ?_
  intro cdv A outer s H E hr
  exact (r_cons (r_set (i := 1) sc_groupings.nd rfl (by first | exact Or.inl rfl | exact Or.inr rfl) (r_lst (r_acons (r_tup r_anil) r_anil)) rfl (by first | exact .inl rfl | exact .inr rfl))
    (r_cons (r_for PassesOwn.never rfl (r_range1 (by rfl) T.z_range (q_len T.z_len (q_ix (r_var (pv 0)) r_int))) (pg_name (i := 2) sc_groupings.nd rfl (by first | exact Or.inl rfl | exact Or.inr rfl)) (tgOk_name (i := 2) (vs := [2]) (by decide)) (r_cons (r_set (i := 3) sc_groupings.nd rfl (by first | exact Or.inl rfl | exact Or.inr rfl) (r_lstO r_anil) rfl (by first | exact .inl rfl | exact .inr rfl))
    (r_cons (r_frz 3 (r_for PassesOwn.never rfl (r_iter (r_var (pv 1))) (pg_name (i := 4) sc_groupings.nd rfl (by first | exact Or.inl rfl | exact Or.inr rfl)) (tgOk_name (i := 4) (vs := [4]) (by decide)) (r_cons (r_for PassesOwn.never rfl (r_range1 (by rfl) T.z_range (q_len T.z_len (r_var (pv 4)))) (pg_name (i := 5) sc_groupings.nd rfl (by first | exact Or.inl rfl | exact Or.inr rfl)) (tgOk_name (i := 5) (vs := [5]) (by decide)) (r_one (r_ifS (q_cmpT (c_eq (u64 hr)) (q_len T.z_len (r_lc (own := [("j", 7)]) rfl sc_groupings.nd (r_iter (q_ix (r_var (pv 4)) (r_var (pv 5)))) (blkOk_by (by kernel_rfl)) (tgOk_name (i := 7) (vs := [7]) (by decide)) (fun _ _ _ _ _ => (pg_name (i := 7) sc_groupings.nd rfl (by first | exact Or.inl rfl | exact Or.inr rfl))) (fun _ _ _ _ _ => (r_ifs1 (r_val (r_call (G_clash.mono (by omega)) hr (by rfl) (aCons_len (aCons_len (aCons_len aNil_len))) (r_acons (r_var (pv 0)) (r_acons (r_var (pv 2)) (r_acons (r_var (pv 7)) r_anil))))))) (fun _ _ _ _ _ => r_int))) r_int) (r_one (r_expr (r_app (r_var (pv 3)) (q_add (q_add (r_sl (r_var (pv 4)) r_onone (r_osome (r_var (pv 5)))) (r_tup (r_acons (q_add (q_ix (r_var (pv 4)) (r_var (pv 5))) (r_tup (r_acons (r_var (pv 2)) r_anil))) r_anil))) (r_sl (r_var (pv 4)) (r_osome (q_add (r_var (pv 5)) r_int)) r_onone))))) r_nil)))
    (r_one (r_expr (r_app (r_var (pv 3)) (q_add (r_var (pv 4)) (r_tup (r_acons (r_tup (r_acons (r_var (pv 2)) r_anil)) r_anil)))))))))
    (r_one (r_set (i := 1) sc_groupings.nd rfl (by first | exact Or.inl rfl | exact Or.inr rfl) (r_var (pv 3)) rfl (by first | exact .inl rfl | exact .inr rfl))))))
    (r_cons (r_set (i := 6) sc_groupings.nd rfl (by first | exact Or.inl rfl | exact Or.inr rfl) r_dicO rfl (by first | exact .inl rfl | exact .inr rfl))
    (r_cons (r_frz 6 (r_for PassesOwn.never rfl (r_iter (r_var (pv 1))) (pg_name (i := 4) sc_groupings.nd rfl (by first | exact Or.inl rfl | exact Or.inr rfl)) (tgOk_name (i := 4) (vs := [4]) (by decide)) (r_one (r_putD (hu_of hr) (r_var (pv 6)) (q_len T.z_len (r_var (pv 4))) (q_add (r_get2 (hu_of hr) (r_var (pv 6)) (q_len T.z_len (r_var (pv 4))) r_int) r_int) rfl))))
    (r_one (r_ret (r_var (pv 6))))))))
abbrev s_group_count : Stmt := topS 7
theorem sc_group_count : FnScope ["web", "g"] ["web", "g"] (defScope s_group_count) := ⟨rfl, rfl, rfl, by decide +kernel, rfl, by decide +kernel, by decide +kernel⟩
theorem ok_group_count {a : Addr} {fd : FuncData} (T : Tops K mg) (Z : At K mg "group_count" ["web", "g"] s_group_count a fd) (G_groupings : Fn P w K mg base 2 "groupings" 1 m_groupings) : Fn P w K mg base 3 "group_count" 2 m_group_count := by
  refine fn_at (lev := 2) (n := 2) (k := 0) (body := b_group_count) Z sc_group_count rfl rfl ?_
  intro cdv A outer s H E hr
  exact (r_one (r_ret (r_get2 (hu_of hr) (r_call (G_groupings.mono (by omega)) hr (by rfl) (aCons_len aNil_len) (r_acons (r_var (pv 0)) r_anil)) (r_var (pv 1)) r_int)))
abbrev s_plan_count : Stmt := topS 8
theorem sc_plan_count : FnScope ["web", "k", "total", "g", "ways", "product", "n"] ["web", "k"] (defScope s_plan_count) := ⟨rfl, rfl, rfl, by decide +kernel, rfl, by decide +kernel, by decide +kernel⟩
theorem ok_plan_count {a : Addr} {fd : FuncData} (T : Tops K mg) (Z : At K mg "plan_count" ["web", "k"] s_plan_count a fd) (G_groupings : Fn P w K mg base 2 "groupings" 1 m_groupings) : Fn P w K mg base 3 "plan_count" 2 m_plan_count := by
  refine fn_at (lev := 2) (n := 2) (k := 5) (body := b_plan_count) Z sc_plan_count rfl rfl ?_
  intro cdv A outer s H E hr
  exact (r_cons (r_set (i := 2) sc_plan_count.nd rfl (by first | exact Or.inl rfl | exact Or.inr rfl) r_int rfl (by first | exact .inl rfl | exact .inr rfl))
    (r_cons (r_for PassesOwn.never rfl (r_items (r_call (G_groupings.mono (by omega)) hr (by rfl) (aCons_len aNil_len) (r_acons (r_var (pv 0)) r_anil))) (g_tup (is := [3, 4]) rfl (pgs_cons (pg_name (i := 3) sc_plan_count.nd rfl (by first | exact Or.inl rfl | exact Or.inr rfl)) (pgs_cons (pg_name (i := 4) sc_plan_count.nd rfl (by first | exact Or.inl rfl | exact Or.inr rfl)) pgs_nil))) (tgOk_tup (is := [3, 4]) (vs := [3, 4]) rfl (by decide)) (r_cons (r_set (i := 5) sc_plan_count.nd rfl (by first | exact Or.inl rfl | exact Or.inr rfl) (r_var (pv 4)) rfl (by first | exact .inl rfl | exact .inr rfl))
    (r_cons (r_for PassesOwn.never rfl (r_range1 (by rfl) T.z_range (r_var (pv 3))) (pg_name (i := 6) sc_plan_count.nd rfl (by first | exact Or.inl rfl | exact Or.inr rfl)) (tgOk_name (i := 6) (vs := [6]) (by decide)) (r_one (r_set (i := 5) sc_plan_count.nd rfl (by first | exact Or.inl rfl | exact Or.inr rfl) (q_mul (r_var (pv 5)) (q_sub (r_var (pv 1)) (r_var (pv 6)))) rfl (by first | exact .inl rfl | exact .inr rfl))))
    (r_one (r_set (i := 2) sc_plan_count.nd rfl (by first | exact Or.inl rfl | exact Or.inr rfl) (q_add (r_var (pv 2)) (r_var (pv 5))) rfl (by first | exact .inl rfl | exact .inr rfl))))))
    (r_one (r_ret (r_var (pv 2))))))
abbrev s_free_days : Stmt := topS 10
theorem sc_free_days : FnScope ["web", "plan", "person", "k", "taken", "i", "day"] ["web", "plan", "person", "k"] (defScope s_free_days) := ⟨rfl, rfl, rfl, by decide +kernel, rfl, by decide +kernel, by decide +kernel⟩
theorem ok_free_days {a : Addr} {fd : FuncData} (T : Tops K mg) (Z : At K mg "free_days" ["web", "plan", "person", "k"] s_free_days a fd) (G_meetings_of : Fn P w K mg base 1 "meetings_of" 2 m_meetings_of) : Fn P w K mg base 2 "free_days" 4 m_free_days := by
  refine fn_at (lev := 1) (n := 4) (k := 3) (body := b_free_days) Z sc_free_days rfl rfl ?_
  intro cdv A outer s H E hr
  exact (r_cons (r_set (i := 4) sc_free_days.nd rfl (by first | exact Or.inl rfl | exact Or.inr rfl) (r_lc (own := [("i", 5)]) rfl sc_free_days.nd (r_iter (r_call (G_meetings_of.mono (by omega)) hr (by rfl) (aCons_len (aCons_len aNil_len)) (r_acons (r_var (pv 0)) (r_acons (r_var (pv 2)) r_anil)))) (blkOk_by (by kernel_rfl)) (tgOk_name (i := 5) (vs := [5]) (by decide)) (fun _ _ _ _ _ => (pg_name (i := 5) sc_free_days.nd rfl (by first | exact Or.inl rfl | exact Or.inr rfl))) (fun _ _ _ _ _ => r_ifs0) (fun _ _ _ _ _ => (q_ix (r_var (pv 1)) (r_var (pv 5))))) rfl (by first | exact .inl rfl | exact .inr rfl))
    (r_one (r_ret (r_lc (own := [("day", 6)]) rfl sc_free_days.nd (r_range1 (by rfl) T.z_range (r_var (pv 3))) (blkOk_by (by kernel_rfl)) (tgOk_name (i := 6) (vs := [6]) (by decide)) (fun _ _ _ _ _ => (pg_name (i := 6) sc_free_days.nd rfl (by first | exact Or.inl rfl | exact Or.inr rfl))) (fun _ _ _ _ _ => (r_ifs1 (q_cmpT (c_nin (u65 hr)) (r_var (pv 6)) (r_var (pv 4))))) (fun _ _ _ _ _ => (r_var (pv 6)))))))
abbrev s_days_left : Stmt := topS 14
theorem sc_days_left : FnScope ["web", "days", "i", "k", "taken", "j", "day"] ["web", "days", "i", "k"] (defScope s_days_left) := ⟨rfl, rfl, rfl, by decide +kernel, rfl, by decide +kernel, by decide +kernel⟩
theorem ok_days_left {a : Addr} {fd : FuncData} (T : Tops K mg) (Z : At K mg "days_left" ["web", "days", "i", "k"] s_days_left a fd) (G_clashing : Fn P w K mg base 2 "clashing" 2 m_clashing) : Fn P w K mg base 3 "days_left" 4 m_days_left := by
  refine fn_at (lev := 2) (n := 4) (k := 3) (body := b_days_left) Z sc_days_left rfl rfl ?_
  intro cdv A outer s H E hr
  exact (r_cons (r_set (i := 4) sc_days_left.nd rfl (by first | exact Or.inl rfl | exact Or.inr rfl) (r_lc (own := [("j", 5)]) rfl sc_days_left.nd (r_iter (r_call (G_clashing.mono (by omega)) hr (by rfl) (aCons_len (aCons_len aNil_len)) (r_acons (r_var (pv 0)) (r_acons (r_var (pv 2)) r_anil)))) (blkOk_by (by kernel_rfl)) (tgOk_name (i := 5) (vs := [5]) (by decide)) (fun _ _ _ _ _ => (pg_name (i := 5) sc_days_left.nd rfl (by first | exact Or.inl rfl | exact Or.inr rfl))) (fun _ _ _ _ _ => (r_ifs1 (r_inDT (hu_of hr) (r_var (pv 5)) (r_var (pv 1))))) (fun _ _ _ _ _ => (r_getD (hu_of hr) (r_var (pv 1)) (r_var (pv 5)) (fun _ _ => rfl)))) rfl (by first | exact .inl rfl | exact .inr rfl))
    (r_one (r_ret (r_lc (own := [("day", 6)]) rfl sc_days_left.nd (r_range1 (by rfl) T.z_range (r_var (pv 3))) (blkOk_by (by kernel_rfl)) (tgOk_name (i := 6) (vs := [6]) (by decide)) (fun _ _ _ _ _ => (pg_name (i := 6) sc_days_left.nd rfl (by first | exact Or.inl rfl | exact Or.inr rfl))) (fun _ _ _ _ _ => (r_ifs1 (q_cmpT (c_nin (u65 hr)) (r_var (pv 6)) (r_var (pv 4))))) (fun _ _ _ _ _ => (r_var (pv 6)))))))
abbrev s_days_to_try : Stmt := topS 15
theorem sc_days_to_try : FnScope ["web", "days", "i", "k", "used", "fresh", "j", "day"] ["web", "days", "i", "k"] (defScope s_days_to_try) := ⟨rfl, rfl, rfl, by decide +kernel, rfl, by decide +kernel, by decide +kernel⟩
theorem ok_days_to_try {a : Addr} {fd : FuncData} (T : Tops K mg) (Z : At K mg "days_to_try" ["web", "days", "i", "k"] s_days_to_try a fd) (G_days_left : Fn P w K mg base 3 "days_left" 4 m_days_left) : Fn P w K mg base 4 "days_to_try" 4 m_days_to_try := by
  refine fn_at (lev := 3) (n := 4) (k := 4) (body := b_days_to_try) Z sc_days_to_try rfl rfl ?_
  intro cdv A outer s H E hr
  exact (r_cons (r_set (i := 4) sc_days_to_try.nd rfl (by first | exact Or.inl rfl | exact Or.inr rfl) (r_lc (own := [("j", 6)]) rfl sc_days_to_try.nd (r_keys (r_var (pv 1))) (blkOk_by (by kernel_rfl)) (tgOk_name (i := 6) (vs := [6]) (by decide)) (fun _ _ _ _ _ => (pg_name (i := 6) sc_days_to_try.nd rfl (by first | exact Or.inl rfl | exact Or.inr rfl))) (fun _ _ _ _ _ => r_ifs0) (fun _ _ _ _ _ => (r_getD (hu_of hr) (r_var (pv 1)) (r_var (pv 6)) (fun _ _ => rfl)))) rfl (by first | exact .inl rfl | exact .inr rfl))
    (r_cons (r_set (i := 5) sc_days_to_try.nd rfl (by first | exact Or.inl rfl | exact Or.inr rfl) (r_sl (r_lc (own := [("day", 7)]) rfl sc_days_to_try.nd (r_range1 (by rfl) T.z_range (r_var (pv 3))) (blkOk_by (by kernel_rfl)) (tgOk_name (i := 7) (vs := [7]) (by decide)) (fun _ _ _ _ _ => (pg_name (i := 7) sc_days_to_try.nd rfl (by first | exact Or.inl rfl | exact Or.inr rfl))) (fun _ _ _ _ _ => (r_ifs1 (q_cmpT (c_nin (u65 hr)) (r_var (pv 7)) (r_var (pv 4))))) (fun _ _ _ _ _ => (r_var (pv 7)))) r_onone (r_osome r_int)) rfl (by first | exact .inl rfl | exact .inr rfl))
    (r_one (r_ret (r_lc (own := [("day", 7)]) rfl sc_days_to_try.nd (r_iter (r_call (G_days_left.mono (by omega)) hr (by rfl) (aCons_len (aCons_len (aCons_len (aCons_len aNil_len)))) (r_acons (r_var (pv 0)) (r_acons (r_var (pv 1)) (r_acons (r_var (pv 2)) (r_acons (r_var (pv 3)) r_anil)))))) (blkOk_by (by kernel_rfl)) (tgOk_name (i := 7) (vs := [7]) (by decide)) (fun _ _ _ _ _ => (pg_name (i := 7) sc_days_to_try.nd rfl (by first | exact Or.inl rfl | exact Or.inr rfl))) (fun _ _ _ _ _ => (r_ifs1 (r_or (q_cmpT (c_in (u65 hr)) (r_var (pv 7)) (r_var (pv 4))) (r_or1 (q_cmpT (c_in (u65 hr)) (r_var (pv 7)) (r_var (pv 5))))).pt)) (fun _ _ _ _ _ => (r_var (pv 7))))))))
abbrev s_with_day : Stmt := topS 16
theorem sc_with_day : FnScope ["days", "i", "day", "found"] ["days", "i", "day"] (defScope s_with_day) := ⟨rfl, rfl, rfl, by decide +kernel, rfl, by decide +kernel, by decide +kernel⟩
theorem ok_with_day {a : Addr} {fd : FuncData} (T : Tops K mg) (Z : At K mg "with_day" ["days", "i", "day"] s_with_day a fd) : Fn P w K mg base 1 "with_day" 3 m_with_day := by
  refine fn_at (lev := 0) (n := 3) (k := 1) (body := b_with_day) Z sc_with_day rfl rfl ?_
  intro cdv A outer s H E hr
  exact (r_cons (r_set (i := 3) sc_with_day.nd rfl (by first | exact Or.inl rfl | exact Or.inr rfl) (q_dictO T.z_dict (r_var (pv 0))) rfl (by first | exact .inl rfl | exact .inr rfl))
    (r_cons (r_frz 3 (r_putD (hu_of hr) (r_var (pv 3)) (r_var (pv 1)) (r_var (pv 2)) rfl))
    (r_one (r_ret (r_var (pv 3))))))
abbrev s_hardest : Stmt := topS 17
theorem sc_hardest : FnScope ["web", "days", "k", "open_ones", "i"] ["web", "days", "k"] (defScope s_hardest) := ⟨rfl, rfl, rfl, by decide +kernel, rfl, by decide +kernel, by decide +kernel⟩
theorem ok_hardest {a : Addr} {fd : FuncData} (T : Tops K mg) (Z : At K mg "hardest" ["web", "days", "k"] s_hardest a fd) (G_days_to_try : Fn P w K mg base 4 "days_to_try" 4 m_days_to_try) : Fn P w K mg base 5 "hardest" 3 m_hardest := by
  refine fn_at (lev := 4) (n := 3) (k := 2) (body := b_hardest) Z sc_hardest rfl rfl ?_
  intro cdv A outer s H E hr
  exact (r_cons (r_setLc (i := 3) (own := [("i", 4)]) rfl sc_hardest.nd rfl rfl (sw_true rfl rfl rfl (by decide +kernel)) (r_range1 (by rfl) T.z_range (q_len T.z_len (q_ix (r_var (pv 0)) r_int))) (blkOk_by (by kernel_rfl)) (tgOk_name (i := 4) (vs := [4]) (by decide)) (fun _ _ _ _ _ => (pg_name (i := 4) sc_hardest.nd rfl (by first | exact Or.inl rfl | exact Or.inr rfl))) (fun _ _ _ _ _ => (r_ifs1 (r_notInDT (hu_of hr) (r_var (pv 4)) (r_var (pv 1))))) (fun _ _ _ _ _ => (r_var (pv 4))))
    (r_cons (r_ifS (q_cmpT (c_eq (u64 hr)) (q_len T.z_len (r_var (pv 3))) r_int) (r_one (r_ret r_non)) r_nil)
    (r_one (r_ret (q_ix (q_minA rfl (u65 hr) T.z_min (r_lc (own := [("i", 4)]) rfl sc_hardest.nd (r_iter (r_var (pv 3))) (blkOk_by (by kernel_rfl)) (tgOk_name (i := 4) (vs := [4]) (by decide)) (fun _ _ _ _ _ => (pg_name (i := 4) sc_hardest.nd rfl (by first | exact Or.inl rfl | exact Or.inr rfl))) (fun _ _ _ _ _ => r_ifs0) (fun _ _ _ _ _ => (r_tup (r_acons (q_len T.z_len (r_call (G_days_to_try.mono (by omega)) hr (by rfl) (aCons_len (aCons_len (aCons_len (aCons_len aNil_len)))) (r_acons (r_var (pv 0)) (r_acons (r_var (pv 1)) (r_acons (r_var (pv 4)) (r_acons (r_var (pv 2)) r_anil)))))) (r_acons (r_var (pv 4)) r_anil)))))) r_int)))))
abbrev s_searched : Stmt := topS 18
theorem sc_searched : FnScope ["web", "k", "days", "i", "tried", "papers", "day", "found", "paper"] ["web", "k", "days"] (defScope s_searched) := ⟨rfl, rfl, rfl, by decide +kernel, rfl, by decide +kernel, by decide +kernel⟩
theorem ok_searched {a : Addr} {fd : FuncData} (T : Tops K mg) (Z : At K mg "searched" ["web", "k", "days"] s_searched a fd) (G_days_to_try : Fn P w K mg base 4 "days_to_try" 4 m_days_to_try) (G_hardest : Fn P w K mg base 5 "hardest" 3 m_hardest) (G_with_day : Fn P w K mg base 1 "with_day" 3 m_with_day) : ∀ n : Nat, Fn P w K mg base (6 + n) "searched" 3 (m_searched n)
  | 0 => fn_none Z
  | n + 1 => by
    have G_searched := ok_searched T Z G_days_to_try G_hardest G_with_day n
    refine fn_at (lev := 6 + n) (n := 3) (k := 6) (body := b_searched (m_searched n)) Z sc_searched rfl rfl ?_
    intro cdv A outer s H E hr
    exact (r_cons (r_set (i := 3) sc_searched.nd rfl (by first | exact Or.inl rfl | exact Or.inr rfl) (r_call (G_hardest.mono (by omega)) hr (by rfl) (aCons_len (aCons_len (aCons_len aNil_len))) (r_acons (r_var (pv 0)) (r_acons (r_var (pv 2)) (r_acons (r_var (pv 1)) r_anil)))) rfl (by first | exact .inl rfl | exact .inr rfl))
    (r_cons (r_ifS (q_cmpT c_is (r_var (pv 3)) r_non) (r_one (r_ret (r_tup (r_acons (r_var (pv 2)) (r_acons r_non r_anil))))) r_nil)
    (r_cons (r_set (i := 4) sc_searched.nd rfl (by first | exact Or.inl rfl | exact Or.inr rfl) (r_call (G_days_to_try.mono (by omega)) hr (by rfl) (aCons_len (aCons_len (aCons_len (aCons_len aNil_len)))) (r_acons (r_var (pv 0)) (r_acons (r_var (pv 2)) (r_acons (r_var (pv 3)) (r_acons (r_var (pv 1)) r_anil))))) rfl (by first | exact .inl rfl | exact .inr rfl))
    (r_cons (r_ifS (q_cmpT (c_eq (u64 hr)) (q_len T.z_len (r_var (pv 4))) r_int) (r_one (r_ret (r_tup (r_acons r_non (r_acons (r_tup (r_acons (r_glob (by rfl) T.c_STUCK (fun _ => .str)) (r_acons (r_var (pv 3)) r_anil))) r_anil))))) r_nil)
    (r_cons (r_set (i := 5) sc_searched.nd rfl (by first | exact Or.inl rfl | exact Or.inr rfl) (r_lstO r_anil) rfl (by first | exact .inl rfl | exact .inr rfl))
    (r_cons (r_frz 5 (r_for PassesOwn.never rfl (r_iter (r_var (pv 4))) (pg_name (i := 6) sc_searched.nd rfl (by first | exact Or.inl rfl | exact Or.inr rfl)) (tgOk_name (i := 6) (vs := [6]) (by decide)) (r_cons (r_asgT (is := [7, 8]) rfl (r_call (G_searched.mono (by omega)) hr (by rfl) (aCons_len (aCons_len (aCons_len aNil_len))) (r_acons (r_var (pv 0)) (r_acons (r_var (pv 1)) (r_acons (r_call (G_with_day.mono (by omega)) hr (by rfl) (aCons_len (aCons_len (aCons_len aNil_len))) (r_acons (r_var (pv 2)) (r_acons (r_var (pv 3)) (r_acons (r_var (pv 6)) r_anil)))) r_anil)))) (pgs_cons (pg_name (i := 7) sc_searched.nd rfl (by first | exact Or.inl rfl | exact Or.inr rfl)) (pgs_cons (pg_name (i := 8) sc_searched.nd rfl (by first | exact Or.inl rfl | exact Or.inr rfl)) pgs_nil)))
    (r_cons (r_ifS (q_cmpT c_is (r_var (pv 8)) r_non) (r_one (r_ret (r_tup (r_acons (r_var (pv 7)) (r_acons r_non r_anil))))) r_nil)
    (r_one (r_expr (r_app (r_var (pv 5)) (r_var (pv 8)))))))))
    (r_one (r_ret (r_tup (r_acons r_non (r_acons (r_tup (r_acons (r_glob (by rfl) T.c_TRY (fun _ => .str)) (r_acons (r_var (pv 3)) (r_acons (q_tuple T.z_tuple (r_var (pv 5))) r_anil)))) r_anil)))))))))))
abbrev s_plan_within : Stmt := topS 19
theorem sc_plan_within : FnScope ["web", "k", "found", "paper", "i"] ["web", "k"] (defScope s_plan_within) := ⟨rfl, rfl, rfl, by decide +kernel, rfl, by decide +kernel, by decide +kernel⟩
theorem ok_plan_within {a : Addr} {fd : FuncData} (T : Tops K mg) (Z : At K mg "plan_within" ["web", "k"] s_plan_within a fd) (G_searched : Fn P w K mg base 26 "searched" 3 (m_searched 20)) : Fn P w K mg base 27 "plan_within" 2 m_plan_within := by
  refine fn_at (lev := 26) (n := 2) (k := 3) (body := b_plan_within) Z sc_plan_within rfl rfl ?_
  intro cdv A outer s H E hr
  exact (r_cons (r_asgT (is := [2, 3]) rfl (r_call (G_searched.mono (by omega)) hr (by rfl) (aCons_len (aCons_len (aCons_len aNil_len))) (r_acons (r_var (pv 0)) (r_acons (r_var (pv 1)) (r_acons r_dic0 r_anil)))) (pgs_cons (pg_name (i := 2) sc_plan_within.nd rfl (by first | exact Or.inl rfl | exact Or.inr rfl)) (pgs_cons (pg_name (i := 3) sc_plan_within.nd rfl (by first | exact Or.inl rfl | exact Or.inr rfl)) pgs_nil)))
    (r_cons (r_ifS (q_cmpT c_isnt (r_var (pv 3)) r_non) (r_one (r_ret r_non)) r_nil)
    (r_one (r_ret (q_tuple T.z_tuple (r_lc (own := [("i", 4)]) rfl sc_plan_within.nd (r_range1 (by rfl) T.z_range (q_len T.z_len (q_ix (r_var (pv 0)) r_int))) (blkOk_by (by kernel_rfl)) (tgOk_name (i := 4) (vs := [4]) (by decide)) (fun _ _ _ _ _ => (pg_name (i := 4) sc_plan_within.nd rfl (by first | exact Or.inl rfl | exact Or.inr rfl))) (fun _ _ _ _ _ => r_ifs0) (fun _ _ _ _ _ => (r_getD (hu_of hr) (r_var (pv 2)) (r_var (pv 4)) (fun _ _ => rfl)))))))))
abbrev s__law_deal : Stmt := topS 21
theorem sc__law_deal : FnScope ["script", "row", "k", "cell", "turn", "total"] ["script"] (defScope s__law_deal) := ⟨rfl, rfl, rfl, by decide +kernel, rfl, by decide +kernel, by decide +kernel⟩
theorem ok__law_deal {a : Addr} {fd : FuncData} (T : Tops K mg) (Z : At K mg "_law_deal" ["script"] s__law_deal a fd) : Fn P w K mg base 1 "_law_deal" 1 m__law_deal := by
  refine fn_at (lev := 0) (n := 1) (k := 5) (body := b__law_deal) Z sc__law_deal rfl rfl ?_
  intro cdv A outer s H E hr
  exact (r_cons (r_set (i := 1) sc__law_deal.nd rfl (by first | exact Or.inl rfl | exact Or.inr rfl) (r_lstO r_anil) rfl (by first | exact .inl rfl | exact .inr rfl))
    (r_cons (r_frz 1 (r_for PassesOwn.never rfl (r_range1 (by rfl) T.z_range (q_min2 rfl T.z_min (q_len T.z_len (r_var (pv 0))) r_int)) (pg_name (i := 2) sc__law_deal.nd rfl (by first | exact Or.inl rfl | exact Or.inr rfl)) (tgOk_name (i := 2) (vs := [2]) (by decide)) (r_cons (r_set (i := 3) sc__law_deal.nd rfl (by first | exact Or.inl rfl | exact Or.inr rfl) (q_abs T.z_abs (q_int T.z_int (q_ix (r_var (pv 0)) (r_var (pv 2))))) rfl (by first | exact .inl rfl | exact .inr rfl))
    (r_one (r_ifS (q_cmpT c_ge (r_var (pv 3)) (q_pow r_int r_int)) (r_one (r_for PassesOwn.never rfl (r_range1 (by rfl) T.z_range r_int) (pg_name (i := 4) sc__law_deal.nd rfl (by first | exact Or.inl rfl | exact Or.inr rfl)) (tgOk_name (i := 4) (vs := [4]) (by decide)) (r_one (r_ifS (q_cmpT c_gt (r_var (pv 3)) r_int) (r_cons (r_expr (r_app (r_var (pv 1)) (q_mod (r_var (pv 3)) r_int)))
    (r_one (r_set (i := 3) sc__law_deal.nd rfl (by first | exact Or.inl rfl | exact Or.inr rfl) (q_div (r_var (pv 3)) r_int) rfl (by first | exact .inl rfl | exact .inr rfl)))) r_nil)))) (r_cons (r_set (i := 3) sc__law_deal.nd rfl (by first | exact Or.inl rfl | exact Or.inr rfl) (q_add (q_add (q_mul (q_mod (r_var (pv 3)) r_int) r_int) (q_mul (r_var (pv 2)) r_int)) r_int) rfl (by first | exact .inl rfl | exact .inr rfl))
    (r_one (r_for PassesOwn.never rfl (r_range1 (by rfl) T.z_range r_int) (pg_name (i := 4) sc__law_deal.nd rfl (by first | exact Or.inl rfl | exact Or.inr rfl)) (tgOk_name (i := 4) (vs := [4]) (by decide)) (r_cons (r_set (i := 3) sc__law_deal.nd rfl (by first | exact Or.inl rfl | exact Or.inr rfl) (q_mod (q_add (q_add (q_mul (r_var (pv 3)) r_int) r_int) (r_var (pv 4))) r_int) rfl (by first | exact .inl rfl | exact .inr rfl))
    (r_one (r_expr (r_app (r_var (pv 1)) (q_mod (q_div (r_var (pv 3)) r_int) r_int)))))))))))))
    (r_cons (r_set (i := 5) sc__law_deal.nd rfl (by first | exact Or.inl rfl | exact Or.inr rfl) (q_add (q_sum rfl T.z_sum (r_var (pv 1))) (q_len T.z_len (r_var (pv 0)))) rfl (by first | exact .inl rfl | exact .inr rfl))
    (r_one (r_ret (r_deal (r_var (pv 1)) (r_lstO (r_acons r_int r_anil)) (r_var (pv 5))))))))
abbrev s__law_take : Stmt := topS 22
theorem sc__law_take : FnScope ["deal", "many", "at"] ["deal", "many"] (defScope s__law_take) := ⟨rfl, rfl, rfl, by decide +kernel, rfl, by decide +kernel, by decide +kernel⟩
theorem ok__law_take {a : Addr} {fd : FuncData} (T : Tops K mg) (Z : At K mg "_law_take" ["deal", "many"] s__law_take a fd) : Fn P w K mg base 1 "_law_take" 2 m__law_take := by
  refine fn_at (lev := 0) (n := 2) (k := 1) (body := b__law_take) Z sc__law_take rfl rfl ?_
  intro cdv A outer s H E hr
  exact (r_cons (r_set (i := 2) sc__law_take.nd rfl (by first | exact Or.inl rfl | exact Or.inr rfl) (q_ix (q_ix (r_var (pv 0)) r_int) r_int) rfl (by first | exact .inl rfl | exact .inr rfl))
    (r_cons (r_putL (q_ix (r_var (pv 0)) r_int) r_int (q_add (r_var (pv 2)) r_int))
    (r_cons (r_ifS (q_cmpT c_lt (r_var (pv 2)) (q_len T.z_len (q_ix (r_var (pv 0)) r_int))) (r_one (r_ret (q_mod (q_ix (q_ix (r_var (pv 0)) r_int) (r_var (pv 2))) (r_var (pv 1))))) r_nil)
    (r_one (r_ret (q_mod (q_div (q_add (q_add (q_mul (r_var (pv 2)) r_int) (q_mul (q_ix (r_var (pv 0)) r_int) r_int)) (q_mul (q_mul (r_var (pv 2)) (r_var (pv 2))) r_int)) r_int) (r_var (pv 1))))))))
abbrev s__law_same : Stmt := topS 23
theorem sc__law_same : FnScope ["a", "b", "k"] ["a", "b"] (defScope s__law_same) := ⟨rfl, rfl, rfl, by decide +kernel, rfl, by decide +kernel, by decide +kernel⟩
theorem ok__law_same {a : Addr} {fd : FuncData} (T : Tops K mg) (Z : At K mg "_law_same" ["a", "b"] s__law_same a fd) : ∀ n : Nat, Fn P w K mg base (1 + n) "_law_same" 2 (m__law_same n)
  | 0 => fn_none Z
  | n + 1 => by
    have G__law_same := ok__law_same T Z n
    refine fn_at (lev := 1 + n) (n := 2) (k := 1) (body := b__law_same (m__law_same n)) Z sc__law_same rfl rfl ?_
    intro cdv A outer s H E hr
    exact (r_cons (r_ifS (r_or (r_val (q_isi (by decide) T.z_isinstance T.z_tuple (by decide +kernel) (r_var (pv 1)))) (r_or1 (r_val (q_isi (by decide) T.z_isinstance T.z_list (by decide +kernel) (r_var (pv 1)))))).pt (r_cons (r_ifS (r_or (r_and (r_val (q_isi (by decide) T.z_isinstance T.z_tuple (by decide +kernel) (r_var (pv 1)))) (r_and1 (r_not (r_val (q_isi (by decide) T.z_isinstance T.z_tuple (by decide +kernel) (r_var (pv 0))))))).pt (r_or1 (r_and (r_val (q_isi (by decide) T.z_isinstance T.z_list (by decide +kernel) (r_var (pv 1)))) (r_and1 (r_not (r_val (q_isi (by decide) T.z_isinstance T.z_list (by decide +kernel) (r_var (pv 0))))))).pt)).pt (r_one (r_ret r_bl)) r_nil)
    (r_cons (r_ifS (q_cmpT (c_ne (u64 hr)) (q_len T.z_len (r_var (pv 0))) (q_len T.z_len (r_var (pv 1)))) (r_one (r_ret r_bl)) r_nil)
    (r_cons (r_for PassesOwn.never rfl (r_range1 (by rfl) T.z_range (q_len T.z_len (r_var (pv 1)))) (pg_name (i := 2) sc__law_same.nd rfl (by first | exact Or.inl rfl | exact Or.inr rfl)) (tgOk_name (i := 2) (vs := [2]) (by decide)) (r_one (r_ifS (r_not (r_val (r_call (G__law_same.mono (by omega)) hr (by rfl) (aCons_len (aCons_len aNil_len)) (r_acons (q_ix (r_var (pv 0)) (r_var (pv 2))) (r_acons (q_ix (r_var (pv 1)) (r_var (pv 2))) r_anil))))) (r_one (r_ret r_bl)) r_nil)))
    (r_one (r_ret r_bl))))) r_nil)
    (r_cons (r_ifS (r_or (r_val (q_isi (by decide) T.z_isinstance T.z_bool (by decide +kernel) (r_var (pv 0)))) (r_or1 (r_val (q_isi (by decide) T.z_isinstance T.z_bool (by decide +kernel) (r_var (pv 1)))))).pt (r_one (r_ret (r_eand (q_isi (by decide) T.z_isinstance T.z_bool (by decide +kernel) (r_var (pv 0))) (r_eand (q_isi (by decide) T.z_isinstance T.z_bool (by decide +kernel) (r_var (pv 1))) (r_eone (q_cmp (c_eq (u64 hr)) (r_var (pv 0)) (r_var (pv 1)))))))) r_nil)
    (r_cons (r_ifS (r_val (q_isi (by decide) T.z_isinstance T.z_int (by decide +kernel) (r_var (pv 1)))) (r_one (r_ret (r_eand (q_isi (by decide) T.z_isinstance T.z_int (by decide +kernel) (r_var (pv 0))) (r_eone (q_cmp (c_eq (u64 hr)) (r_var (pv 0)) (r_var (pv 1))))))) r_nil)
    (r_cons (r_ifS (r_val (q_isi (by decide) T.z_isinstance T.z_str (by decide +kernel) (r_var (pv 1)))) (r_one (r_ret (r_eand (q_isi (by decide) T.z_isinstance T.z_str (by decide +kernel) (r_var (pv 0))) (r_eone (q_cmp (c_eq (u64 hr)) (r_var (pv 0)) (r_var (pv 1))))))) r_nil)
    (r_one (r_ret (r_eand (q_cmp c_is (r_var (pv 0)) r_non) (r_eone (q_cmp c_is (r_var (pv 1)) r_non)))))))))
abbrev s__law_plain : Stmt := topS 24
theorem sc__law_plain : FnScope ["deal", "most", "limit", "people", "chance", "meetings", "a", "b", "turn", "at"] ["deal", "most", "limit"] (defScope s__law_plain) := ⟨rfl, rfl, rfl, by decide +kernel, rfl, by decide +kernel, by decide +kernel⟩
theorem ok__law_plain {a : Addr} {fd : FuncData} (T : Tops K mg) (Z : At K mg "_law_plain" ["deal", "most", "limit"] s__law_plain a fd) (G__law_take : Fn P w K mg base 1 "_law_take" 2 m__law_take) : Fn P w K mg base 2 "_law_plain" 3 m__law_plain := by
  refine fn_at (lev := 1) (n := 3) (k := 7) (body := b__law_plain) Z sc__law_plain rfl rfl ?_
  intro cdv A outer s H E hr
  exact (r_cons (r_set (i := 3) sc__law_plain.nd rfl (by first | exact Or.inl rfl | exact Or.inr rfl) (r_call (G__law_take.mono (by omega)) hr (by rfl) (aCons_len (aCons_len aNil_len)) (r_acons (r_var (pv 0)) (r_acons (q_add (r_var (pv 1)) r_int) r_anil))) rfl (by first | exact .inl rfl | exact .inr rfl))
    (r_cons (r_set (i := 4) sc__law_plain.nd rfl (by first | exact Or.inl rfl | exact Or.inr rfl) (q_add r_int (r_call (G__law_take.mono (by omega)) hr (by rfl) (aCons_len (aCons_len aNil_len)) (r_acons (r_var (pv 0)) (r_acons r_int r_anil)))) rfl (by first | exact .inl rfl | exact .inr rfl))
    (r_cons (r_set (i := 5) sc__law_plain.nd rfl (by first | exact Or.inl rfl | exact Or.inr rfl) (r_lstO r_anil) rfl (by first | exact .inl rfl | exact .inr rfl))
    (r_cons (r_frz 5 (r_for PassesOwn.never rfl (r_range1 (by rfl) T.z_range (r_var (pv 3))) (pg_name (i := 6) sc__law_plain.nd rfl (by first | exact Or.inl rfl | exact Or.inr rfl)) (tgOk_name (i := 6) (vs := [6]) (by decide)) (r_one (r_for PassesOwn.never rfl (r_range2 (by rfl) T.z_range (q_add (r_var (pv 6)) r_int) (r_var (pv 3))) (pg_name (i := 7) sc__law_plain.nd rfl (by first | exact Or.inl rfl | exact Or.inr rfl)) (tgOk_name (i := 7) (vs := [7]) (by decide)) (r_one (r_ifS (r_and (q_cmpT c_lt (r_call (G__law_take.mono (by omega)) hr (by rfl) (aCons_len (aCons_len aNil_len)) (r_acons (r_var (pv 0)) (r_acons r_int r_anil))) (r_var (pv 4))) (r_and1 (q_cmpT c_lt (q_len T.z_len (r_var (pv 5))) (r_var (pv 2))))).pt (r_one (r_expr (r_app (r_var (pv 5)) (r_tup (r_acons (r_var (pv 6)) (r_acons (r_var (pv 7)) r_anil)))))) r_nil))))))
    (r_cons (r_frz 5 (r_for PassesOwn.never rfl (r_range1 (by rfl) T.z_range (r_call (G__law_take.mono (by omega)) hr (by rfl) (aCons_len (aCons_len aNil_len)) (r_acons (r_var (pv 0)) (r_acons r_int r_anil)))) (pg_name (i := 8) sc__law_plain.nd rfl (by first | exact Or.inl rfl | exact Or.inr rfl)) (tgOk_name (i := 8) (vs := [8]) (by decide)) (r_one (r_frz 5 (r_ifS (q_cmpT c_gt (q_len T.z_len (r_var (pv 5))) r_int) (r_cons (r_set (i := 9) sc__law_plain.nd rfl (by first | exact Or.inl rfl | exact Or.inr rfl) (r_call (G__law_take.mono (by omega)) hr (by rfl) (aCons_len (aCons_len aNil_len)) (r_acons (r_var (pv 0)) (r_acons (q_len T.z_len (r_var (pv 5))) r_anil))) rfl (by first | exact .inl rfl | exact .inr rfl))
    (r_one (r_frz 5 (r_set (i := 5) sc__law_plain.nd rfl (by first | exact Or.inl rfl | exact Or.inr rfl) (q_add (r_sl (r_var (pv 5)) (r_osome (r_var (pv 9))) r_onone) (r_sl (r_var (pv 5)) r_onone (r_osome (r_var (pv 9))))) rfl (by first | exact .inl rfl | exact .inr rfl))))) r_nil)))))
    (r_one (r_ret (r_tup (r_acons (r_var (pv 3)) (r_acons (q_tuple T.z_tuple (r_var (pv 5))) r_anil))))))))))
abbrev s__law_sided : Stmt := topS 25
theorem sc__law_sided : FnScope ["deal", "most", "limit", "one", "other", "meetings", "turn"] ["deal", "most", "limit"] (defScope s__law_sided) := ⟨rfl, rfl, rfl, by decide +kernel, rfl, by decide +kernel, by decide +kernel⟩
theorem ok__law_sided {a : Addr} {fd : FuncData} (T : Tops K mg) (Z : At K mg "_law_sided" ["deal", "most", "limit"] s__law_sided a fd) (G__law_take : Fn P w K mg base 1 "_law_take" 2 m__law_take) : Fn P w K mg base 2 "_law_sided" 3 m__law_sided := by
  refine fn_at (lev := 1) (n := 3) (k := 4) (body := b__law_sided) Z sc__law_sided rfl rfl ?_
  intro cdv A outer s H E hr
  exact (r_cons (r_set (i := 3) sc__law_sided.nd rfl (by first | exact Or.inl rfl | exact Or.inr rfl) (q_add r_int (r_call (G__law_take.mono (by omega)) hr (by rfl) (aCons_len (aCons_len aNil_len)) (r_acons (r_var (pv 0)) (r_acons (r_var (pv 1)) r_anil)))) rfl (by first | exact .inl rfl | exact .inr rfl))
    (r_cons (r_set (i := 4) sc__law_sided.nd rfl (by first | exact Or.inl rfl | exact Or.inr rfl) (q_add r_int (r_call (G__law_take.mono (by omega)) hr (by rfl) (aCons_len (aCons_len aNil_len)) (r_acons (r_var (pv 0)) (r_acons (r_var (pv 1)) r_anil)))) rfl (by first | exact .inl rfl | exact .inr rfl))
    (r_cons (r_set (i := 5) sc__law_sided.nd rfl (by first | exact Or.inl rfl | exact Or.inr rfl) (r_lstO r_anil) rfl (by first | exact .inl rfl | exact .inr rfl))
    (r_cons (r_frz 5 (r_for PassesOwn.never rfl (r_range1 (by rfl) T.z_range (r_call (G__law_take.mono (by omega)) hr (by rfl) (aCons_len (aCons_len aNil_len)) (r_acons (r_var (pv 0)) (r_acons (q_add (r_var (pv 2)) r_int) r_anil)))) (pg_name (i := 6) sc__law_sided.nd rfl (by first | exact Or.inl rfl | exact Or.inr rfl)) (tgOk_name (i := 6) (vs := [6]) (by decide)) (r_one (r_expr (r_app (r_var (pv 5)) (r_tup (r_acons (r_call (G__law_take.mono (by omega)) hr (by rfl) (aCons_len (aCons_len aNil_len)) (r_acons (r_var (pv 0)) (r_acons (r_var (pv 3)) r_anil))) (r_acons (q_add (r_var (pv 3)) (r_call (G__law_take.mono (by omega)) hr (by rfl) (aCons_len (aCons_len aNil_len)) (r_acons (r_var (pv 0)) (r_acons (r_var (pv 4)) r_anil)))) r_anil))))))))
    (r_one (r_ret (r_tup (r_acons (q_add (r_var (pv 3)) (r_var (pv 4))) (r_acons (q_tuple T.z_tuple (r_var (pv 5))) r_anil)))))))))
abbrev s__law_any : Stmt := topS 26
theorem sc__law_any : FnScope ["deal", "limit", "choice", "people", "meetings", "turn", "a"] ["deal", "limit"] (defScope s__law_any) := ⟨rfl, rfl, rfl, by decide +kernel, rfl, by decide +kernel, by decide +kernel⟩
theorem ok__law_any {a : Addr} {fd : FuncData} (T : Tops K mg) (Z : At K mg "_law_any" ["deal", "limit"] s__law_any a fd) (G__law_plain : Fn P w K mg base 2 "_law_plain" 3 m__law_plain) (G__law_sided : Fn P w K mg base 2 "_law_sided" 3 m__law_sided) (G__law_take : Fn P w K mg base 1 "_law_take" 2 m__law_take) : Fn P w K mg base 3 "_law_any" 2 m__law_any := by
  refine fn_at (lev := 2) (n := 2) (k := 5) (body := b__law_any) Z sc__law_any rfl rfl ?_
  intro cdv A outer s H E hr
  exact (r_cons (r_set (i := 2) sc__law_any.nd rfl (by first | exact Or.inl rfl | exact Or.inr rfl) (r_call (G__law_take.mono (by omega)) hr (by rfl) (aCons_len (aCons_len aNil_len)) (r_acons (r_var (pv 0)) (r_acons r_int r_anil))) rfl (by first | exact .inl rfl | exact .inr rfl))
    (r_cons (r_ifS (q_cmpT (c_eq (u64 hr)) (r_var (pv 2)) r_int) (r_one (r_ret (r_call (G__law_plain.mono (by omega)) hr (by rfl) (aCons_len (aCons_len (aCons_len aNil_len))) (r_acons (r_var (pv 0)) (r_acons r_int (r_acons (r_var (pv 1)) r_anil)))))) r_nil)
    (r_cons (r_ifS (q_cmpT (c_eq (u64 hr)) (r_var (pv 2)) r_int) (r_one (r_ret (r_call (G__law_sided.mono (by omega)) hr (by rfl) (aCons_len (aCons_len (aCons_len aNil_len))) (r_acons (r_var (pv 0)) (r_acons r_int (r_acons (r_var (pv 1)) r_anil)))))) r_nil)
    (r_cons (r_set (i := 3) sc__law_any.nd rfl (by first | exact Or.inl rfl | exact Or.inr rfl) (q_add r_int (r_call (G__law_take.mono (by omega)) hr (by rfl) (aCons_len (aCons_len aNil_len)) (r_acons (r_var (pv 0)) (r_acons r_int r_anil)))) rfl (by first | exact .inl rfl | exact .inr rfl))
    (r_cons (r_set (i := 4) sc__law_any.nd rfl (by first | exact Or.inl rfl | exact Or.inr rfl) (r_lstO r_anil) rfl (by first | exact .inl rfl | exact .inr rfl))
    (r_cons (r_frz 4 (r_for PassesOwn.never rfl (r_range1 (by rfl) T.z_range (r_call (G__law_take.mono (by omega)) hr (by rfl) (aCons_len (aCons_len aNil_len)) (r_acons (r_var (pv 0)) (r_acons (q_add (r_var (pv 1)) r_int) r_anil)))) (pg_name (i := 5) sc__law_any.nd rfl (by first | exact Or.inl rfl | exact Or.inr rfl)) (tgOk_name (i := 5) (vs := [5]) (by decide)) (r_cons (r_set (i := 6) sc__law_any.nd rfl (by first | exact Or.inl rfl | exact Or.inr rfl) (r_call (G__law_take.mono (by omega)) hr (by rfl) (aCons_len (aCons_len aNil_len)) (r_acons (r_var (pv 0)) (r_acons (q_sub (r_var (pv 3)) r_int) r_anil))) rfl (by first | exact .inl rfl | exact .inr rfl))
    (r_one (r_expr (r_app (r_var (pv 4)) (r_tup (r_acons (r_var (pv 6)) (r_acons (q_add (q_add (r_var (pv 6)) r_int) (r_call (G__law_take.mono (by omega)) hr (by rfl) (aCons_len (aCons_len aNil_len)) (r_acons (r_var (pv 0)) (r_acons (q_sub (q_sub (r_var (pv 3)) r_int) (r_var (pv 6))) r_anil)))) r_anil)))))))))
    (r_one (r_ret (r_tup (r_acons (r_var (pv 3)) (r_acons (q_tuple T.z_tuple (r_var (pv 4))) r_anil)))))))))))
abbrev s__law_few : Stmt := topS 27
theorem sc__law_few : FnScope ["deal", "people", "meetings", "turn", "a"] ["deal"] (defScope s__law_few) := ⟨rfl, rfl, rfl, by decide +kernel, rfl, by decide +kernel, by decide +kernel⟩
theorem ok__law_few {a : Addr} {fd : FuncData} (T : Tops K mg) (Z : At K mg "_law_few" ["deal"] s__law_few a fd) (G__law_take : Fn P w K mg base 1 "_law_take" 2 m__law_take) : Fn P w K mg base 2 "_law_few" 1 m__law_few := by
  refine fn_at (lev := 1) (n := 1) (k := 4) (body := b__law_few) Z sc__law_few rfl rfl ?_
  intro cdv A outer s H E hr
  exact (r_cons (r_set (i := 1) sc__law_few.nd rfl (by first | exact Or.inl rfl | exact Or.inr rfl) (q_sub r_int (r_call (G__law_take.mono (by omega)) hr (by rfl) (aCons_len (aCons_len aNil_len)) (r_acons (r_var (pv 0)) (r_acons r_int r_anil)))) rfl (by first | exact .inl rfl | exact .inr rfl))
    (r_cons (r_set (i := 2) sc__law_few.nd rfl (by first | exact Or.inl rfl | exact Or.inr rfl) (r_lstO r_anil) rfl (by first | exact .inl rfl | exact .inr rfl))
    (r_cons (r_frz 2 (r_for PassesOwn.never rfl (r_range1 (by rfl) T.z_range (r_call (G__law_take.mono (by omega)) hr (by rfl) (aCons_len (aCons_len aNil_len)) (r_acons (r_var (pv 0)) (r_acons r_int r_anil)))) (pg_name (i := 3) sc__law_few.nd rfl (by first | exact Or.inl rfl | exact Or.inr rfl)) (tgOk_name (i := 3) (vs := [3]) (by decide)) (r_one (r_ifS (q_cmpT c_gt (r_var (pv 1)) r_int) (r_cons (r_set (i := 4) sc__law_few.nd rfl (by first | exact Or.inl rfl | exact Or.inr rfl) (r_call (G__law_take.mono (by omega)) hr (by rfl) (aCons_len (aCons_len aNil_len)) (r_acons (r_var (pv 0)) (r_acons (q_sub (r_var (pv 1)) r_int) r_anil))) rfl (by first | exact .inl rfl | exact .inr rfl))
    (r_one (r_expr (r_app (r_var (pv 2)) (r_tup (r_acons (r_var (pv 4)) (r_acons (q_add (q_add (r_var (pv 4)) r_int) (r_call (G__law_take.mono (by omega)) hr (by rfl) (aCons_len (aCons_len aNil_len)) (r_acons (r_var (pv 0)) (r_acons (q_sub (q_sub (r_var (pv 1)) r_int) (r_var (pv 4))) r_anil)))) r_anil))))))) r_nil))))
    (r_one (r_ret (r_tup (r_acons (r_var (pv 1)) (r_acons (q_tuple T.z_tuple (r_var (pv 2))) r_anil))))))))
abbrev s__law_web : Stmt := topS 28
theorem sc__law_web : FnScope ["deal", "limit"] ["deal", "limit"] (defScope s__law_web) := ⟨rfl, rfl, rfl, by decide +kernel, rfl, by decide +kernel, by decide +kernel⟩
theorem ok__law_web {a : Addr} {fd : FuncData} (T : Tops K mg) (Z : At K mg "_law_web" ["deal", "limit"] s__law_web a fd) (G__law_any : Fn P w K mg base 3 "_law_any" 2 m__law_any) (G__law_few : Fn P w K mg base 2 "_law_few" 1 m__law_few) (G__law_take : Fn P w K mg base 1 "_law_take" 2 m__law_take) : Fn P w K mg base 4 "_law_web" 2 m__law_web := by
  refine fn_at (lev := 3) (n := 2) (k := 0) (body := b__law_web) Z sc__law_web rfl rfl ?_
  intro cdv A outer s H E hr
  exact (r_one (r_ret (r_if (q_cmpT (c_eq (u64 hr)) (r_call (G__law_take.mono (by omega)) hr (by rfl) (aCons_len (aCons_len aNil_len)) (r_acons (r_var (pv 0)) (r_acons r_int r_anil))) r_int) (r_call (G__law_few.mono (by omega)) hr (by rfl) (aCons_len aNil_len) (r_acons (r_var (pv 0)) r_anil)) (r_call (G__law_any.mono (by omega)) hr (by rfl) (aCons_len (aCons_len aNil_len)) (r_acons (r_var (pv 0)) (r_acons (r_var (pv 1)) r_anil))))))
abbrev s__law_clash : Stmt := topS 29
theorem sc__law_clash : FnScope ["web", "i", "j"] ["web", "i", "j"] (defScope s__law_clash) := ⟨rfl, rfl, rfl, by decide +kernel, rfl, by decide +kernel, by decide +kernel⟩
theorem ok__law_clash {a : Addr} {fd : FuncData} (T : Tops K mg) (Z : At K mg "_law_clash" ["web", "i", "j"] s__law_clash a fd) : Fn P w K mg base 1 "_law_clash" 3 m__law_clash := by
  refine fn_at (lev := 0) (n := 3) (k := 0) (body := b__law_clash) Z sc__law_clash rfl rfl ?_
  intro cdv A outer s H E hr
  exact (r_one (r_ret (r_eor (q_cmp (c_in (u65 hr)) (q_ix (q_ix (q_ix (r_var (pv 0)) r_int) (r_var (pv 1))) r_int) (q_ix (q_ix (r_var (pv 0)) r_int) (r_var (pv 2)))) (r_eone (q_cmp (c_in (u65 hr)) (q_ix (q_ix (q_ix (r_var (pv 0)) r_int) (r_var (pv 1))) r_int) (q_ix (q_ix (r_var (pv 0)) r_int) (r_var (pv 2))))))))
abbrev s__law_lay : Stmt := topS 30
theorem sc__law_lay : FnScope ["web", "k", "plans", "i", "longer", "plan", "taken", "j", "day"] ["web", "k"] (defScope s__law_lay) := ⟨rfl, rfl, rfl, by decide +kernel, rfl, by decide +kernel, by decide +kernel⟩
theorem ok__law_lay {a : Addr} {fd : FuncData} (T : Tops K mg) (Z : At K mg "_law_lay" ["web", "k"] s__law_lay a fd) (G__law_clash : Fn P w K mg base 1 "_law_clash" 3 m__law_clash) : Fn P w K mg base 2 "_law_lay" 2 m__law_lay := by
  refine fn_at (lev := 1) (n := 2) (k := 7) (body := b__law_lay) Z sc__law_lay rfl rfl ?_
  intro cdv A outer s H E hr
  exact (r_cons (r_set (i := 2) sc__law_lay.nd rfl (by first | exact Or.inl rfl | exact Or.inr rfl) (r_lst (r_acons (r_tup r_anil) r_anil)) rfl (by first | exact .inl rfl | exact .inr rfl))
    (r_cons (r_for PassesOwn.never rfl (r_range1 (by rfl) T.z_range (q_len T.z_len (q_ix (r_var (pv 0)) r_int))) (pg_name (i := 3) sc__law_lay.nd rfl (by first | exact Or.inl rfl | exact Or.inr rfl)) (tgOk_name (i := 3) (vs := [3]) (by decide)) (r_cons (r_set (i := 4) sc__law_lay.nd rfl (by first | exact Or.inl rfl | exact Or.inr rfl) (r_lst r_anil) rfl (by first | exact .inl rfl | exact .inr rfl))
    (r_cons (r_for PassesOwn.never rfl (r_iter (r_var (pv 2))) (pg_name (i := 5) sc__law_lay.nd rfl (by first | exact Or.inl rfl | exact Or.inr rfl)) (tgOk_name (i := 5) (vs := [5]) (by decide)) (r_cons (r_set (i := 6) sc__law_lay.nd rfl (by first | exact Or.inl rfl | exact Or.inr rfl) (r_lc (own := [("j", 7)]) rfl sc__law_lay.nd (r_range1 (by rfl) T.z_range (r_var (pv 3))) (blkOk_by (by kernel_rfl)) (tgOk_name (i := 7) (vs := [7]) (by decide)) (fun _ _ _ _ _ => (pg_name (i := 7) sc__law_lay.nd rfl (by first | exact Or.inl rfl | exact Or.inr rfl))) (fun _ _ _ _ _ => (r_ifs1 (r_val (r_call (G__law_clash.mono (by omega)) hr (by rfl) (aCons_len (aCons_len (aCons_len aNil_len))) (r_acons (r_var (pv 0)) (r_acons (r_var (pv 3)) (r_acons (r_var (pv 7)) r_anil))))))) (fun _ _ _ _ _ => (q_ix (r_var (pv 5)) (r_var (pv 7))))) rfl (by first | exact .inl rfl | exact .inr rfl))
    (r_one (r_set (i := 4) sc__law_lay.nd rfl (by first | exact Or.inl rfl | exact Or.inr rfl) (q_add (r_var (pv 4)) (r_lc (own := [("day", 8)]) rfl sc__law_lay.nd (r_range1 (by rfl) T.z_range (r_var (pv 1))) (blkOk_by (by kernel_rfl)) (tgOk_name (i := 8) (vs := [8]) (by decide)) (fun _ _ _ _ _ => (pg_name (i := 8) sc__law_lay.nd rfl (by first | exact Or.inl rfl | exact Or.inr rfl))) (fun _ _ _ _ _ => (r_ifs1 (q_cmpT (c_nin (u65 hr)) (r_var (pv 8)) (r_var (pv 6))))) (fun _ _ _ _ _ => (q_add (r_var (pv 5)) (r_tup (r_acons (r_var (pv 8)) r_anil)))))) rfl (by first | exact .inl rfl | exact .inr rfl)))))
    (r_one (r_set (i := 2) sc__law_lay.nd rfl (by first | exact Or.inl rfl | exact Or.inr rfl) (r_var (pv 4)) rfl (by first | exact .inl rfl | exact .inr rfl))))))
    (r_one (r_ret (r_var (pv 2))))))
abbrev s__law_falling : Stmt := topS 31
theorem sc__law_falling : FnScope ["k", "g", "product", "n"] ["k", "g"] (defScope s__law_falling) := ⟨rfl, rfl, rfl, by decide +kernel, rfl, by decide +kernel, by decide +kernel⟩
theorem ok__law_falling {a : Addr} {fd : FuncData} (T : Tops K mg) (Z : At K mg "_law_falling" ["k", "g"] s__law_falling a fd) : Fn P w K mg base 1 "_law_falling" 2 m__law_falling := by
  refine fn_at (lev := 0) (n := 2) (k := 2) (body := b__law_falling) Z sc__law_falling rfl rfl ?_
  intro cdv A outer s H E hr
  exact (r_cons (r_set (i := 2) sc__law_falling.nd rfl (by first | exact Or.inl rfl | exact Or.inr rfl) r_int rfl (by first | exact .inl rfl | exact .inr rfl))
    (r_cons (r_for PassesOwn.never rfl (r_range1 (by rfl) T.z_range (r_var (pv 1))) (pg_name (i := 3) sc__law_falling.nd rfl (by first | exact Or.inl rfl | exact Or.inr rfl)) (tgOk_name (i := 3) (vs := [3]) (by decide)) (r_one (r_set (i := 2) sc__law_falling.nd rfl (by first | exact Or.inl rfl | exact Or.inr rfl) (q_mul (r_var (pv 2)) (q_sub (r_var (pv 0)) (r_var (pv 3)))) rfl (by first | exact .inl rfl | exact .inr rfl))))
    (r_one (r_ret (r_var (pv 2))))))
abbrev s__law_in_order : Stmt := topS 32
theorem sc__law_in_order : FnScope ["plan", "n"] ["plan"] (defScope s__law_in_order) := ⟨rfl, rfl, rfl, by decide +kernel, rfl, by decide +kernel, by decide +kernel⟩
theorem ok__law_in_order {a : Addr} {fd : FuncData} (T : Tops K mg) (Z : At K mg "_law_in_order" ["plan"] s__law_in_order a fd) : Fn P w K mg base 1 "_law_in_order" 1 m__law_in_order := by
  refine fn_at (lev := 0) (n := 1) (k := 1) (body := b__law_in_order) Z sc__law_in_order rfl rfl ?_
  intro cdv A outer s H E hr
  exact (r_cons (r_for PassesOwn.never rfl (r_range1 (by rfl) T.z_range (q_len T.z_len (r_var (pv 0)))) (pg_name (i := 1) sc__law_in_order.nd rfl (by first | exact Or.inl rfl | exact Or.inr rfl)) (tgOk_name (i := 1) (vs := [1]) (by decide)) (r_one (r_ifS (r_and (q_cmpT c_gt (q_ix (r_var (pv 0)) (r_var (pv 1))) r_int) (r_and1 (q_cmpT (c_nin (u65 hr)) (q_sub (q_ix (r_var (pv 0)) (r_var (pv 1))) r_int) (r_sl (r_var (pv 0)) r_onone (r_osome (r_var (pv 1))))))).pt (r_one (r_ret r_bl)) r_nil)))
    (r_one (r_ret r_bl)))
abbrev s__law_groups : Stmt := topS 33
theorem sc__law_groups : FnScope ["web", "firsts", "sizes", "plan", "g", "size"] ["web"] (defScope s__law_groups) := ⟨rfl, rfl, rfl, by decide +kernel, rfl, by decide +kernel, by decide +kernel⟩
theorem ok__law_groups {a : Addr} {fd : FuncData} (T : Tops K mg) (Z : At K mg "_law_groups" ["web"] s__law_groups a fd) (G__law_in_order : Fn P w K mg base 1 "_law_in_order" 1 m__law_in_order) (G__law_lay : Fn P w K mg base 2 "_law_lay" 2 m__law_lay) : Fn P w K mg base 3 "_law_groups" 1 m__law_groups := by
  refine fn_at (lev := 2) (n := 1) (k := 5) (body := b__law_groups) Z sc__law_groups rfl rfl ?_
  intro cdv A outer s H E hr
  exact (r_cons (r_setLc (i := 1) (own := [("plan", 3)]) rfl sc__law_groups.nd rfl rfl (sw_true rfl rfl rfl (by decide +kernel)) (r_iter (r_call (G__law_lay.mono (by omega)) hr (by rfl) (aCons_len (aCons_len aNil_len)) (r_acons (r_var (pv 0)) (r_acons (q_len T.z_len (q_ix (r_var (pv 0)) r_int)) r_anil)))) (blkOk_by (by kernel_rfl)) (tgOk_name (i := 3) (vs := [3]) (by decide)) (fun _ _ _ _ _ => (pg_name (i := 3) sc__law_groups.nd rfl (by first | exact Or.inl rfl | exact Or.inr rfl))) (fun _ _ _ _ _ => (r_ifs1 (r_val (r_call (G__law_in_order.mono (by omega)) hr (by rfl) (aCons_len aNil_len) (r_acons (r_var (pv 3)) r_anil))))) (fun _ _ _ _ _ => (r_var (pv 3))))
    (r_cons (r_set (i := 2) sc__law_groups.nd rfl (by first | exact Or.inl rfl | exact Or.inr rfl) (r_lc (own := [("plan", 3)]) rfl sc__law_groups.nd (r_iter (r_var (pv 1))) (blkOk_by (by kernel_rfl)) (tgOk_name (i := 3) (vs := [3]) (by decide)) (fun _ _ _ _ _ => (pg_name (i := 3) sc__law_groups.nd rfl (by first | exact Or.inl rfl | exact Or.inr rfl))) (fun _ _ _ _ _ => r_ifs0) (fun _ _ _ _ _ => (r_if (q_cmpT c_gt (q_len T.z_len (r_var (pv 3))) r_int) (q_add (q_maxA rfl (u65 hr) T.z_max (r_var (pv 3))) r_int) r_int))) rfl (by first | exact .inl rfl | exact .inr rfl))
    (r_one (r_ret (r_lc (own := [("g", 4)]) rfl sc__law_groups.nd (r_range1 (by rfl) T.z_range (q_add (q_len T.z_len (q_ix (r_var (pv 0)) r_int)) r_int)) (blkOk_by (by kernel_rfl)) (tgOk_name (i := 4) (vs := [4]) (by decide)) (fun _ _ _ _ _ => (pg_name (i := 4) sc__law_groups.nd rfl (by first | exact Or.inl rfl | exact Or.inr rfl))) (fun _ _ _ _ _ => r_ifs0) (fun _ _ _ _ _ => (q_len T.z_len (r_lc (own := [("size", 5)]) rfl sc__law_groups.nd (r_iter (r_var (pv 2))) (blkOk_by (by kernel_rfl)) (tgOk_name (i := 5) (vs := [5]) (by decide)) (fun _ _ _ _ _ => (pg_name (i := 5) sc__law_groups.nd rfl (by first | exact Or.inl rfl | exact Or.inr rfl))) (fun _ _ _ _ _ => (r_ifs1 (q_cmpT (c_eq (u64 hr)) (r_var (pv 5)) (r_var (pv 4))))) (fun _ _ _ _ _ => r_int)))))))))
abbrev s__law_one_more : Stmt := topS 34
theorem sc__law_one_more : FnScope ["deal", "web", "plans", "k", "a", "b", "both", "plan", "other", "day"] ["deal", "web", "plans", "k"] (defScope s__law_one_more) := ⟨rfl, rfl, rfl, by decide +kernel, rfl, by decide +kernel, by decide +kernel⟩
theorem ok__law_one_more {a : Addr} {fd : FuncData} (T : Tops K mg) (Z : At K mg "_law_one_more" ["deal", "web", "plans", "k"] s__law_one_more a fd) (G__law_same : Fn P w K mg base 21 "_law_same" 2 (m__law_same 20)) (G__law_take : Fn P w K mg base 1 "_law_take" 2 m__law_take) (G_free_days : Fn P w K mg base 2 "free_days" 4 m_free_days) (G_plan_count : Fn P w K mg base 3 "plan_count" 2 m_plan_count) (G_with_meeting : Fn P w K mg base 1 "with_meeting" 3 m_with_meeting) : Fn P w K mg base 22 "_law_one_more" 4 m__law_one_more := by
  refine fn_at (lev := 21) (n := 4) (k := 6) (body := b__law_one_more) Z sc__law_one_more rfl rfl ?_
  intro cdv A outer s H E hr
  exact (r_cons (r_ifS (q_cmpT c_lt (q_ix (r_var (pv 1)) r_int) r_int) (r_one (r_ret r_bl)) r_nil)
    (r_cons (r_set (i := 4) sc__law_one_more.nd rfl (by first | exact Or.inl rfl | exact Or.inr rfl) (r_call (G__law_take.mono (by omega)) hr (by rfl) (aCons_len (aCons_len aNil_len)) (r_acons (r_var (pv 0)) (r_acons (q_sub (q_ix (r_var (pv 1)) r_int) r_int) r_anil))) rfl (by first | exact .inl rfl | exact .inr rfl))
    (r_cons (r_set (i := 5) sc__law_one_more.nd rfl (by first | exact Or.inl rfl | exact Or.inr rfl) (q_add (q_add (r_var (pv 4)) r_int) (r_call (G__law_take.mono (by omega)) hr (by rfl) (aCons_len (aCons_len aNil_len)) (r_acons (r_var (pv 0)) (r_acons (q_sub (q_sub (q_ix (r_var (pv 1)) r_int) r_int) (r_var (pv 4))) r_anil)))) rfl (by first | exact .inl rfl | exact .inr rfl))
    (r_cons (r_set (i := 6) sc__law_one_more.nd rfl (by first | exact Or.inl rfl | exact Or.inr rfl) r_int rfl (by first | exact .inl rfl | exact .inr rfl))
    (r_cons (r_for PassesOwn.never rfl (r_iter (r_var (pv 2))) (pg_name (i := 7) sc__law_one_more.nd rfl (by first | exact Or.inl rfl | exact Or.inr rfl)) (tgOk_name (i := 7) (vs := [7]) (by decide)) (r_cons (r_set (i := 8) sc__law_one_more.nd rfl (by first | exact Or.inl rfl | exact Or.inr rfl) (r_call (G_free_days.mono (by omega)) hr (by rfl) (aCons_len (aCons_len (aCons_len (aCons_len aNil_len)))) (r_acons (r_var (pv 1)) (r_acons (r_var (pv 7)) (r_acons (r_var (pv 5)) (r_acons (r_var (pv 3)) r_anil))))) rfl (by first | exact .inl rfl | exact .inr rfl))
    (r_one (r_set (i := 6) sc__law_one_more.nd rfl (by first | exact Or.inl rfl | exact Or.inr rfl) (q_add (r_var (pv 6)) (q_len T.z_len (r_lc (own := [("day", 9)]) rfl sc__law_one_more.nd (r_iter (r_call (G_free_days.mono (by omega)) hr (by rfl) (aCons_len (aCons_len (aCons_len (aCons_len aNil_len)))) (r_acons (r_var (pv 1)) (r_acons (r_var (pv 7)) (r_acons (r_var (pv 4)) (r_acons (r_var (pv 3)) r_anil)))))) (blkOk_by (by kernel_rfl)) (tgOk_name (i := 9) (vs := [9]) (by decide)) (fun _ _ _ _ _ => (pg_name (i := 9) sc__law_one_more.nd rfl (by first | exact Or.inl rfl | exact Or.inr rfl))) (fun _ _ _ _ _ => (r_ifs1 (q_cmpT (c_in (u65 hr)) (r_var (pv 9)) (r_var (pv 8))))) (fun _ _ _ _ _ => (r_var (pv 9)))))) rfl (by first | exact .inl rfl | exact .inr rfl)))))
    (r_one (r_ret (r_call (G__law_same.mono (by omega)) hr (by rfl) (aCons_len (aCons_len aNil_len)) (r_acons (r_call (G_plan_count.mono (by omega)) hr (by rfl) (aCons_len (aCons_len aNil_len)) (r_acons (r_call (G_with_meeting.mono (by omega)) hr (by rfl) (aCons_len (aCons_len (aCons_len aNil_len))) (r_acons (r_var (pv 1)) (r_acons (r_var (pv 4)) (r_acons (r_var (pv 5)) r_anil)))) (r_acons (r_var (pv 3)) r_anil))) (r_acons (r_var (pv 6)) r_anil))))))))))
abbrev s__law_new_person : Stmt := topS 35
theorem sc__law_new_person : FnScope ["deal", "web", "plans", "k", "p", "mine", "wider", "pair"] ["deal", "web", "plans", "k"] (defScope s__law_new_person) := ⟨rfl, rfl, rfl, by decide +kernel, rfl, by decide +kernel, by decide +kernel⟩
theorem ok__law_new_person {a : Addr} {fd : FuncData} (T : Tops K mg) (Z : At K mg "_law_new_person" ["deal", "web", "plans", "k"] s__law_new_person a fd) (G__law_same : Fn P w K mg base 21 "_law_same" 2 (m__law_same 20)) (G__law_take : Fn P w K mg base 1 "_law_take" 2 m__law_take) (G_plan_count : Fn P w K mg base 3 "plan_count" 2 m_plan_count) : Fn P w K mg base 22 "_law_new_person" 4 m__law_new_person := by
  refine fn_at (lev := 21) (n := 4) (k := 4) (body := b__law_new_person) Z sc__law_new_person rfl rfl ?_
  intro cdv A outer s H E hr
  exact (r_cons (r_ifS (q_cmpT (c_eq (u64 hr)) (q_ix (r_var (pv 1)) r_int) r_int) (r_one (r_ret r_bl)) r_nil)
    (r_cons (r_set (i := 4) sc__law_new_person.nd rfl (by first | exact Or.inl rfl | exact Or.inr rfl) (r_call (G__law_take.mono (by omega)) hr (by rfl) (aCons_len (aCons_len aNil_len)) (r_acons (r_var (pv 0)) (r_acons (q_ix (r_var (pv 1)) r_int) r_anil))) rfl (by first | exact .inl rfl | exact .inr rfl))
    (r_cons (r_set (i := 5) sc__law_new_person.nd rfl (by first | exact Or.inl rfl | exact Or.inr rfl) (q_len T.z_len (r_lc (own := [("pair", 7)]) rfl sc__law_new_person.nd (r_iter (q_ix (r_var (pv 1)) r_int)) (blkOk_by (by kernel_rfl)) (tgOk_name (i := 7) (vs := [7]) (by decide)) (fun _ _ _ _ _ => (pg_name (i := 7) sc__law_new_person.nd rfl (by first | exact Or.inl rfl | exact Or.inr rfl))) (fun _ _ _ _ _ => (r_ifs1 (q_cmpT (c_in (u65 hr)) (r_var (pv 4)) (r_var (pv 7))))) (fun _ _ _ _ _ => r_int))) rfl (by first | exact .inl rfl | exact .inr rfl))
    (r_cons (r_set (i := 6) sc__law_new_person.nd rfl (by first | exact Or.inl rfl | exact Or.inr rfl) (r_tup (r_acons (q_add (q_ix (r_var (pv 1)) r_int) r_int) (r_acons (q_add (q_ix (r_var (pv 1)) r_int) (r_tup (r_acons (r_tup (r_acons (r_var (pv 4)) (r_acons (q_ix (r_var (pv 1)) r_int) r_anil))) r_anil))) r_anil))) rfl (by first | exact .inl rfl | exact .inr rfl))
    (r_one (r_ret (r_call (G__law_same.mono (by omega)) hr (by rfl) (aCons_len (aCons_len aNil_len)) (r_acons (r_call (G_plan_count.mono (by omega)) hr (by rfl) (aCons_len (aCons_len aNil_len)) (r_acons (r_var (pv 6)) (r_acons (r_var (pv 3)) r_anil))) (r_acons (q_mul (q_len T.z_len (r_var (pv 2))) (q_max2 rfl T.z_max r_int (q_sub (r_var (pv 3)) (r_var (pv 5))))) r_anil)))))))))
abbrev s__law_beside : Stmt := topS 36
theorem sc__law_beside : FnScope ["web", "other", "k", "moved", "joined", "a", "b"] ["web", "other", "k"] (defScope s__law_beside) := ⟨rfl, rfl, rfl, by decide +kernel, rfl, by decide +kernel, by decide +kernel⟩
theorem ok__law_beside {a : Addr} {fd : FuncData} (T : Tops K mg) (Z : At K mg "_law_beside" ["web", "other", "k"] s__law_beside a fd) (G__law_lay : Fn P w K mg base 2 "_law_lay" 2 m__law_lay) (G__law_same : Fn P w K mg base 21 "_law_same" 2 (m__law_same 20)) (G_plan_count : Fn P w K mg base 3 "plan_count" 2 m_plan_count) : Fn P w K mg base 22 "_law_beside" 3 m__law_beside := by
  refine fn_at (lev := 21) (n := 3) (k := 4) (body := b__law_beside) Z sc__law_beside rfl rfl ?_
  intro cdv A outer s H E hr
  exact (r_cons (r_set (i := 3) sc__law_beside.nd rfl (by first | exact Or.inl rfl | exact Or.inr rfl) (q_tuple T.z_tuple (r_lc (own := [("a", 5), ("b", 6)]) rfl sc__law_beside.nd (r_iter (q_ix (r_var (pv 1)) r_int)) (blkOk_by (by kernel_rfl)) (tgOk_tup (is := [5, 6]) (vs := [5, 6]) rfl (by decide)) (fun _ _ _ _ _ => (g_tup (is := [5, 6]) rfl (pgs_cons (pg_name (i := 5) sc__law_beside.nd rfl (by first | exact Or.inl rfl | exact Or.inr rfl)) (pgs_cons (pg_name (i := 6) sc__law_beside.nd rfl (by first | exact Or.inl rfl | exact Or.inr rfl)) pgs_nil)))) (fun _ _ _ _ _ => r_ifs0) (fun _ _ _ _ _ => (r_tup (r_acons (q_add (r_var (pv 5)) (q_ix (r_var (pv 0)) r_int)) (r_acons (q_add (r_var (pv 6)) (q_ix (r_var (pv 0)) r_int)) r_anil)))))) rfl (by first | exact .inl rfl | exact .inr rfl))
    (r_cons (r_set (i := 4) sc__law_beside.nd rfl (by first | exact Or.inl rfl | exact Or.inr rfl) (r_tup (r_acons (q_add (q_ix (r_var (pv 0)) r_int) (q_ix (r_var (pv 1)) r_int)) (r_acons (q_add (q_ix (r_var (pv 0)) r_int) (r_var (pv 3))) r_anil))) rfl (by first | exact .inl rfl | exact .inr rfl))
    (r_one (r_ret (r_call (G__law_same.mono (by omega)) hr (by rfl) (aCons_len (aCons_len aNil_len)) (r_acons (r_call (G_plan_count.mono (by omega)) hr (by rfl) (aCons_len (aCons_len aNil_len)) (r_acons (r_var (pv 4)) (r_acons (r_var (pv 2)) r_anil))) (r_acons (q_mul (q_len T.z_len (r_call (G__law_lay.mono (by omega)) hr (by rfl) (aCons_len (aCons_len aNil_len)) (r_acons (r_var (pv 0)) (r_acons (r_var (pv 2)) r_anil)))) (q_len T.z_len (r_call (G__law_lay.mono (by omega)) hr (by rfl) (aCons_len (aCons_len aNil_len)) (r_acons (r_var (pv 1)) (r_acons (r_var (pv 2)) r_anil))))) r_anil)))))))
abbrev s__law_counted : Stmt := topS 37
theorem sc__law_counted : FnScope ["deal", "web", "groups", "g", "great"] ["deal", "web"] (defScope s__law_counted) := ⟨rfl, rfl, rfl, by decide +kernel, rfl, by decide +kernel, by decide +kernel⟩
theorem ok__law_counted {a : Addr} {fd : FuncData} (T : Tops K mg) (Z : At K mg "_law_counted" ["deal", "web"] s__law_counted a fd) (G__law_falling : Fn P w K mg base 1 "_law_falling" 2 m__law_falling) (G__law_groups : Fn P w K mg base 3 "_law_groups" 1 m__law_groups) (G__law_same : Fn P w K mg base 21 "_law_same" 2 (m__law_same 20)) (G__law_take : Fn P w K mg base 1 "_law_take" 2 m__law_take) (G_group_count : Fn P w K mg base 3 "group_count" 2 m_group_count) (G_plan_count : Fn P w K mg base 3 "plan_count" 2 m_plan_count) : Fn P w K mg base 22 "_law_counted" 2 m__law_counted := by
  refine fn_at (lev := 21) (n := 2) (k := 3) (body := b__law_counted) Z sc__law_counted rfl rfl ?_
  intro cdv A outer s H E hr
  exact (r_cons (r_set (i := 2) sc__law_counted.nd rfl (by first | exact Or.inl rfl | exact Or.inr rfl) (r_call (G__law_groups.mono (by omega)) hr (by rfl) (aCons_len aNil_len) (r_acons (r_var (pv 1)) r_anil)) rfl (by first | exact .inl rfl | exact .inr rfl))
    (r_cons (r_for PassesOwn.never rfl (r_range1 (by rfl) T.z_range (q_len T.z_len (r_var (pv 2)))) (pg_name (i := 3) sc__law_counted.nd rfl (by first | exact Or.inl rfl | exact Or.inr rfl)) (tgOk_name (i := 3) (vs := [3]) (by decide)) (r_one (r_ifS (r_not (r_val (r_call (G__law_same.mono (by omega)) hr (by rfl) (aCons_len (aCons_len aNil_len)) (r_acons (r_call (G_group_count.mono (by omega)) hr (by rfl) (aCons_len (aCons_len aNil_len)) (r_acons (r_var (pv 1)) (r_acons (r_var (pv 3)) r_anil))) (r_acons (q_ix (r_var (pv 2)) (r_var (pv 3))) r_anil))))) (r_one (r_ret r_bl)) r_nil)))
    (r_cons (r_set (i := 4) sc__law_counted.nd rfl (by first | exact Or.inl rfl | exact Or.inr rfl) (q_add r_int (r_call (G__law_take.mono (by omega)) hr (by rfl) (aCons_len (aCons_len aNil_len)) (r_acons (r_var (pv 0)) (r_acons r_int r_anil)))) rfl (by first | exact .inl rfl | exact .inr rfl))
    (r_one (r_ret (r_call (G__law_same.mono (by omega)) hr (by rfl) (aCons_len (aCons_len aNil_len)) (r_acons (r_call (G_plan_count.mono (by omega)) hr (by rfl) (aCons_len (aCons_len aNil_len)) (r_acons (r_var (pv 1)) (r_acons (r_var (pv 4)) r_anil))) (r_acons (q_sum rfl T.z_sum (r_lc (own := [("g", 3)]) rfl sc__law_counted.nd (r_range1 (by rfl) T.z_range (q_len T.z_len (r_var (pv 2)))) (blkOk_by (by kernel_rfl)) (tgOk_name (i := 3) (vs := [3]) (by decide)) (fun _ _ _ _ _ => (pg_name (i := 3) sc__law_counted.nd rfl (by first | exact Or.inl rfl | exact Or.inr rfl))) (fun _ _ _ _ _ => r_ifs0) (fun _ _ _ _ _ => (q_mul (q_ix (r_var (pv 2)) (r_var (pv 3))) (r_call (G__law_falling.mono (by omega)) hr (by rfl) (aCons_len (aCons_len aNil_len)) (r_acons (r_var (pv 4)) (r_acons (r_var (pv 3)) r_anil))))))) r_anil))))))))
abbrev s_law : Stmt := topS 38
theorem sc_law : FnScope ["script", "deal", "web", "k", "plans", "found"] ["script"] (defScope s_law) := ⟨rfl, rfl, rfl, by decide +kernel, rfl, by decide +kernel, by decide +kernel⟩
theorem okF_law {a : Addr} {fd : FuncData} (T : Tops K mg) (Z : At K mg "law" ["script"] s_law a fd) (G__law_beside : Fn P w K mg base 22 "_law_beside" 3 m__law_beside) (G__law_counted : Fn P w K mg base 22 "_law_counted" 2 m__law_counted) (G__law_deal : Fn P w K mg base 1 "_law_deal" 1 m__law_deal) (G__law_few : Fn P w K mg base 2 "_law_few" 1 m__law_few) (G__law_lay : Fn P w K mg base 2 "_law_lay" 2 m__law_lay) (G__law_new_person : Fn P w K mg base 22 "_law_new_person" 4 m__law_new_person) (G__law_one_more : Fn P w K mg base 22 "_law_one_more" 4 m__law_one_more) (G__law_same : Fn P w K mg base 21 "_law_same" 2 (m__law_same 20)) (G__law_take : Fn P w K mg base 1 "_law_take" 2 m__law_take) (G__law_web : Fn P w K mg base 4 "_law_web" 2 m__law_web) (G_plan_count : Fn P w K mg base 3 "plan_count" 2 m_plan_count) (G_plan_within : Fn P w K mg base 27 "plan_within" 2 m_plan_within) : FnOk P w K mg base CX0 28 a fd ["script"] (spD K 1 m_law) := by
  refine fn_ok (lev := 27) (n := 1) (k := 5) (body := b_law) Z.F sc_law rfl rfl ?_
  intro cdv A outer s H E hr
  exact (r_cons (r_set (i := 1) sc_law.nd rfl (by first | exact Or.inl rfl | exact Or.inr rfl) (r_call (G__law_deal.mono (by omega)) hr (by rfl) (aCons_len aNil_len) (r_acons (r_var (pv 0)) r_anil)) rfl (by first | exact .inl rfl | exact .inr rfl))
    (r_cons (r_set (i := 2) sc_law.nd rfl (by first | exact Or.inl rfl | exact Or.inr rfl) (r_call (G__law_web.mono (by omega)) hr (by rfl) (aCons_len (aCons_len aNil_len)) (r_acons (r_var (pv 1)) (r_acons r_int r_anil))) rfl (by first | exact .inl rfl | exact .inr rfl))
    (r_cons (r_ifS (r_not (r_val (r_call (G__law_counted.mono (by omega)) hr (by rfl) (aCons_len (aCons_len aNil_len)) (r_acons (r_var (pv 1)) (r_acons (r_var (pv 2)) r_anil))))) (r_one (r_ret r_bl)) r_nil)
    (r_cons (r_for PassesOwn.never rfl (r_range1 (by rfl) T.z_range r_int) (pg_name (i := 3) sc_law.nd rfl (by first | exact Or.inl rfl | exact Or.inr rfl)) (tgOk_name (i := 3) (vs := [3]) (by decide)) (r_cons (r_set (i := 4) sc_law.nd rfl (by first | exact Or.inl rfl | exact Or.inr rfl) (r_call (G__law_lay.mono (by omega)) hr (by rfl) (aCons_len (aCons_len aNil_len)) (r_acons (r_var (pv 2)) (r_acons (r_var (pv 3)) r_anil))) rfl (by first | exact .inl rfl | exact .inr rfl))
    (r_cons (r_ifS (r_not (r_val (r_call (G__law_same.mono (by omega)) hr (by rfl) (aCons_len (aCons_len aNil_len)) (r_acons (r_call (G_plan_count.mono (by omega)) hr (by rfl) (aCons_len (aCons_len aNil_len)) (r_acons (r_var (pv 2)) (r_acons (r_var (pv 3)) r_anil))) (r_acons (q_len T.z_len (r_var (pv 4))) r_anil))))) (r_one (r_ret r_bl)) r_nil)
    (r_cons (r_set (i := 5) sc_law.nd rfl (by first | exact Or.inl rfl | exact Or.inr rfl) (r_call (G_plan_within.mono (by omega)) hr (by rfl) (aCons_len (aCons_len aNil_len)) (r_acons (r_var (pv 2)) (r_acons (r_var (pv 3)) r_anil))) rfl (by first | exact .inl rfl | exact .inr rfl))
    (r_cons (r_ifS (r_or (q_cmpT (c_ne (u64 hr)) (q_cmp c_is (r_var (pv 5)) r_non) (q_cmp (c_eq (u64 hr)) (q_len T.z_len (r_var (pv 4))) r_int)) (r_or1 (r_and (q_cmpT c_isnt (r_var (pv 5)) r_non) (r_and1 (r_or (r_not (r_val (q_isi (by decide) T.z_isinstance T.z_tuple (by decide +kernel) (r_var (pv 5))))) (r_or1 (q_cmpT (c_nin (u65 hr)) (r_var (pv 5)) (r_var (pv 4))))).pt)).pt)).pt (r_one (r_ret r_bl)) r_nil)
    (r_one (r_ifS (r_or (r_not (r_val (r_call (G__law_one_more.mono (by omega)) hr (by rfl) (aCons_len (aCons_len (aCons_len (aCons_len aNil_len)))) (r_acons (r_var (pv 1)) (r_acons (r_var (pv 2)) (r_acons (r_var (pv 4)) (r_acons (r_var (pv 3)) r_anil))))))) (r_or1 (r_not (r_val (r_call (G__law_new_person.mono (by omega)) hr (by rfl) (aCons_len (aCons_len (aCons_len (aCons_len aNil_len)))) (r_acons (r_var (pv 1)) (r_acons (r_var (pv 2)) (r_acons (r_var (pv 4)) (r_acons (r_var (pv 3)) r_anil))))))))).pt (r_one (r_ret r_bl)) r_nil)))))))
    (r_one (r_ret (r_call (G__law_beside.mono (by omega)) hr (by rfl) (aCons_len (aCons_len (aCons_len aNil_len))) (r_acons (r_var (pv 2)) (r_acons (r_call (G__law_few.mono (by omega)) hr (by rfl) (aCons_len aNil_len) (r_acons (r_var (pv 1)) r_anil)) (r_acons (r_call (G__law_take.mono (by omega)) hr (by rfl) (aCons_len (aCons_len aNil_len)) (r_acons (r_var (pv 1)) (r_acons r_int r_anil))) r_anil))))))))))
theorem ok_all (T : Tops K mg)
  {a_meetings_of : Addr} {d_meetings_of : FuncData} (Z_meetings_of : At K mg "meetings_of" ["web", "person"] s_meetings_of a_meetings_of d_meetings_of)
  {a_clash : Addr} {d_clash : FuncData} (Z_clash : At K mg "clash" ["web", "i", "j"] s_clash a_clash d_clash)
  {a_clashing : Addr} {d_clashing : FuncData} (Z_clashing : At K mg "clashing" ["web", "i"] s_clashing a_clashing d_clashing)
  {a_with_meeting : Addr} {d_with_meeting : FuncData} (Z_with_meeting : At K mg "with_meeting" ["web", "a", "b"] s_with_meeting a_with_meeting d_with_meeting)
  {a_groupings : Addr} {d_groupings : FuncData} (Z_groupings : At K mg "groupings" ["web"] s_groupings a_groupings d_groupings)
  {a_group_count : Addr} {d_group_count : FuncData} (Z_group_count : At K mg "group_count" ["web", "g"] s_group_count a_group_count d_group_count)
  {a_plan_count : Addr} {d_plan_count : FuncData} (Z_plan_count : At K mg "plan_count" ["web", "k"] s_plan_count a_plan_count d_plan_count)
  {a_free_days : Addr} {d_free_days : FuncData} (Z_free_days : At K mg "free_days" ["web", "plan", "person", "k"] s_free_days a_free_days d_free_days)
  {a_days_left : Addr} {d_days_left : FuncData} (Z_days_left : At K mg "days_left" ["web", "days", "i", "k"] s_days_left a_days_left d_days_left)
  {a_days_to_try : Addr} {d_days_to_try : FuncData} (Z_days_to_try : At K mg "days_to_try" ["web", "days", "i", "k"] s_days_to_try a_days_to_try d_days_to_try)
  {a_with_day : Addr} {d_with_day : FuncData} (Z_with_day : At K mg "with_day" ["days", "i", "day"] s_with_day a_with_day d_with_day)
  {a_hardest : Addr} {d_hardest : FuncData} (Z_hardest : At K mg "hardest" ["web", "days", "k"] s_hardest a_hardest d_hardest)
  {a_searched : Addr} {d_searched : FuncData} (Z_searched : At K mg "searched" ["web", "k", "days"] s_searched a_searched d_searched)
  {a_plan_within : Addr} {d_plan_within : FuncData} (Z_plan_within : At K mg "plan_within" ["web", "k"] s_plan_within a_plan_within d_plan_within)
  {a__law_deal : Addr} {d__law_deal : FuncData} (Z__law_deal : At K mg "_law_deal" ["script"] s__law_deal a__law_deal d__law_deal)
  {a__law_take : Addr} {d__law_take : FuncData} (Z__law_take : At K mg "_law_take" ["deal", "many"] s__law_take a__law_take d__law_take)
  {a__law_same : Addr} {d__law_same : FuncData} (Z__law_same : At K mg "_law_same" ["a", "b"] s__law_same a__law_same d__law_same)
  {a__law_plain : Addr} {d__law_plain : FuncData} (Z__law_plain : At K mg "_law_plain" ["deal", "most", "limit"] s__law_plain a__law_plain d__law_plain)
  {a__law_sided : Addr} {d__law_sided : FuncData} (Z__law_sided : At K mg "_law_sided" ["deal", "most", "limit"] s__law_sided a__law_sided d__law_sided)
  {a__law_any : Addr} {d__law_any : FuncData} (Z__law_any : At K mg "_law_any" ["deal", "limit"] s__law_any a__law_any d__law_any)
  {a__law_few : Addr} {d__law_few : FuncData} (Z__law_few : At K mg "_law_few" ["deal"] s__law_few a__law_few d__law_few)
  {a__law_web : Addr} {d__law_web : FuncData} (Z__law_web : At K mg "_law_web" ["deal", "limit"] s__law_web a__law_web d__law_web)
  {a__law_clash : Addr} {d__law_clash : FuncData} (Z__law_clash : At K mg "_law_clash" ["web", "i", "j"] s__law_clash a__law_clash d__law_clash)
  {a__law_lay : Addr} {d__law_lay : FuncData} (Z__law_lay : At K mg "_law_lay" ["web", "k"] s__law_lay a__law_lay d__law_lay)
  {a__law_falling : Addr} {d__law_falling : FuncData} (Z__law_falling : At K mg "_law_falling" ["k", "g"] s__law_falling a__law_falling d__law_falling)
  {a__law_in_order : Addr} {d__law_in_order : FuncData} (Z__law_in_order : At K mg "_law_in_order" ["plan"] s__law_in_order a__law_in_order d__law_in_order)
  {a__law_groups : Addr} {d__law_groups : FuncData} (Z__law_groups : At K mg "_law_groups" ["web"] s__law_groups a__law_groups d__law_groups)
  {a__law_one_more : Addr} {d__law_one_more : FuncData} (Z__law_one_more : At K mg "_law_one_more" ["deal", "web", "plans", "k"] s__law_one_more a__law_one_more d__law_one_more)
  {a__law_new_person : Addr} {d__law_new_person : FuncData} (Z__law_new_person : At K mg "_law_new_person" ["deal", "web", "plans", "k"] s__law_new_person a__law_new_person d__law_new_person)
  {a__law_beside : Addr} {d__law_beside : FuncData} (Z__law_beside : At K mg "_law_beside" ["web", "other", "k"] s__law_beside a__law_beside d__law_beside)
  {a__law_counted : Addr} {d__law_counted : FuncData} (Z__law_counted : At K mg "_law_counted" ["deal", "web"] s__law_counted a__law_counted d__law_counted)
  {a_law : Addr} {d_law : FuncData} (Z_law : At K mg "law" ["script"] s_law a_law d_law) : FnOk P w K mg base CX0 28 a_law d_law ["script"] (spD K 1 m_law) := by
  have G_meetings_of : Fn P w K mg base 1 "meetings_of" 2 m_meetings_of := ok_meetings_of T Z_meetings_of
  have G_clash : Fn P w K mg base 1 "clash" 3 m_clash := ok_clash T Z_clash
  have G_clashing : Fn P w K mg base 2 "clashing" 2 m_clashing := ok_clashing T Z_clashing G_clash
  have G_with_meeting : Fn P w K mg base 1 "with_meeting" 3 m_with_meeting := ok_with_meeting T Z_with_meeting
  have G_groupings : Fn P w K mg base 2 "groupings" 1 m_groupings := ok_groupings T Z_groupings G_clash
  have G_group_count : Fn P w K mg base 3 "group_count" 2 m_group_count := ok_group_count T Z_group_count G_groupings
  have G_plan_count : Fn P w K mg base 3 "plan_count" 2 m_plan_count := ok_plan_count T Z_plan_count G_groupings
  have G_free_days : Fn P w K mg base 2 "free_days" 4 m_free_days := ok_free_days T Z_free_days G_meetings_of
  have G_days_left : Fn P w K mg base 3 "days_left" 4 m_days_left := ok_days_left T Z_days_left G_clashing
  have G_days_to_try : Fn P w K mg base 4 "days_to_try" 4 m_days_to_try := ok_days_to_try T Z_days_to_try G_days_left
  have G_with_day : Fn P w K mg base 1 "with_day" 3 m_with_day := ok_with_day T Z_with_day
  have G_hardest : Fn P w K mg base 5 "hardest" 3 m_hardest := ok_hardest T Z_hardest G_days_to_try
  have G_searched : Fn P w K mg base 26 "searched" 3 (m_searched 20) := ok_searched T Z_searched G_days_to_try G_hardest G_with_day 20
  have G_plan_within : Fn P w K mg base 27 "plan_within" 2 m_plan_within := ok_plan_within T Z_plan_within G_searched
  have G__law_deal : Fn P w K mg base 1 "_law_deal" 1 m__law_deal := ok__law_deal T Z__law_deal
  have G__law_take : Fn P w K mg base 1 "_law_take" 2 m__law_take := ok__law_take T Z__law_take
  have G__law_same : Fn P w K mg base 21 "_law_same" 2 (m__law_same 20) := ok__law_same T Z__law_same 20
  have G__law_plain : Fn P w K mg base 2 "_law_plain" 3 m__law_plain := ok__law_plain T Z__law_plain G__law_take
  have G__law_sided : Fn P w K mg base 2 "_law_sided" 3 m__law_sided := ok__law_sided T Z__law_sided G__law_take
  have G__law_any : Fn P w K mg base 3 "_law_any" 2 m__law_any := ok__law_any T Z__law_any G__law_plain G__law_sided G__law_take
  have G__law_few : Fn P w K mg base 2 "_law_few" 1 m__law_few := ok__law_few T Z__law_few G__law_take
  have G__law_web : Fn P w K mg base 4 "_law_web" 2 m__law_web := ok__law_web T Z__law_web G__law_any G__law_few G__law_take
  have G__law_clash : Fn P w K mg base 1 "_law_clash" 3 m__law_clash := ok__law_clash T Z__law_clash
  have G__law_lay : Fn P w K mg base 2 "_law_lay" 2 m__law_lay := ok__law_lay T Z__law_lay G__law_clash
  have G__law_falling : Fn P w K mg base 1 "_law_falling" 2 m__law_falling := ok__law_falling T Z__law_falling
  have G__law_in_order : Fn P w K mg base 1 "_law_in_order" 1 m__law_in_order := ok__law_in_order T Z__law_in_order
  have G__law_groups : Fn P w K mg base 3 "_law_groups" 1 m__law_groups := ok__law_groups T Z__law_groups G__law_in_order G__law_lay
  have G__law_one_more : Fn P w K mg base 22 "_law_one_more" 4 m__law_one_more := ok__law_one_more T Z__law_one_more G__law_same G__law_take G_free_days G_plan_count G_with_meeting
  have G__law_new_person : Fn P w K mg base 22 "_law_new_person" 4 m__law_new_person := ok__law_new_person T Z__law_new_person G__law_same G__law_take G_plan_count
  have G__law_beside : Fn P w K mg base 22 "_law_beside" 3 m__law_beside := ok__law_beside T Z__law_beside G__law_lay G__law_same G_plan_count
  have G__law_counted : Fn P w K mg base 22 "_law_counted" 2 m__law_counted := ok__law_counted T Z__law_counted G__law_falling G__law_groups G__law_same G__law_take G_group_count G_plan_count
  exact okF_law T Z_law G__law_beside G__law_counted G__law_deal G__law_few G__law_lay G__law_new_person G__law_one_more G__law_same G__law_take G__law_web G_plan_count G_plan_within
end
theorem all_mk {l : PySem.W.OpenLaw} {w : World} {K : PySem.W.Frag} {h : Heap} {mg : Str → Option Value} {fa : Addr} (X : K.In h) (G : h.Ns mainGlobals mg) (hfa : mg "law" = some (.ref fa))
    {f0 : Addr} {od0 an0 : Option Addr} {sl0 : Array (Option Value)} {oc0 kV0 dc0 pm0 cd0 ct0 : Value}
    (a0 : PySem.W.nsIn K mainGlobals "meetings_of" = some (some (.ref f0))) (l0 : K.lookup f0 = some ⟨oc0, od0, .func (PySem.W.fnOf "meetings_of" "meetings_of" (defArgs s_meetings_of) (defBody s_meetings_of) (defScope s_meetings_of) .none kV0 dc0 pm0 an0 cd0 ct0), sl0⟩) (c0 : PySem.W.codeIn K cd0 "meetings_of" = true) (k0 : PySem.W.keepIn K (.ref f0) = true)
    {f1 : Addr} {od1 an1 : Option Addr} {sl1 : Array (Option Value)} {oc1 kV1 dc1 pm1 cd1 ct1 : Value}
    (a1 : PySem.W.nsIn K mainGlobals "clash" = some (some (.ref f1))) (l1 : K.lookup f1 = some ⟨oc1, od1, .func (PySem.W.fnOf "clash" "clash" (defArgs s_clash) (defBody s_clash) (defScope s_clash) .none kV1 dc1 pm1 an1 cd1 ct1), sl1⟩) (c1 : PySem.W.codeIn K cd1 "clash" = true) (k1 : PySem.W.keepIn K (.ref f1) = true)
    {f2 : Addr} {od2 an2 : Option Addr} {sl2 : Array (Option Value)} {oc2 kV2 dc2 pm2 cd2 ct2 : Value}
    (a2 : PySem.W.nsIn K mainGlobals "clashing" = some (some (.ref f2))) (l2 : K.lookup f2 = some ⟨oc2, od2, .func (PySem.W.fnOf "clashing" "clashing" (defArgs s_clashing) (defBody s_clashing) (defScope s_clashing) .none kV2 dc2 pm2 an2 cd2 ct2), sl2⟩) (c2 : PySem.W.codeIn K cd2 "clashing" = true) (k2 : PySem.W.keepIn K (.ref f2) = true)
    {f3 : Addr} {od3 an3 : Option Addr} {sl3 : Array (Option Value)} {oc3 kV3 dc3 pm3 cd3 ct3 : Value}
    (a3 : PySem.W.nsIn K mainGlobals "with_meeting" = some (some (.ref f3))) (l3 : K.lookup f3 = some ⟨oc3, od3, .func (PySem.W.fnOf "with_meeting" "with_meeting" (defArgs s_with_meeting) (defBody s_with_meeting) (defScope s_with_meeting) .none kV3 dc3 pm3 an3 cd3 ct3), sl3⟩) (c3 : PySem.W.codeIn K cd3 "with_meeting" = true) (k3 : PySem.W.keepIn K (.ref f3) = true)
    {f4 : Addr} {od4 an4 : Option Addr} {sl4 : Array (Option Value)} {oc4 kV4 dc4 pm4 cd4 ct4 : Value}
    (a4 : PySem.W.nsIn K mainGlobals "groupings" = some (some (.ref f4))) (l4 : K.lookup f4 = some ⟨oc4, od4, .func (PySem.W.fnOf "groupings" "groupings" (defArgs s_groupings) (defBody s_groupings) (defScope s_groupings) .none kV4 dc4 pm4 an4 cd4 ct4), sl4⟩) (c4 : PySem.W.codeIn K cd4 "groupings" = true) (k4 : PySem.W.keepIn K (.ref f4) = true)
    {f5 : Addr} {od5 an5 : Option Addr} {sl5 : Array (Option Value)} {oc5 kV5 dc5 pm5 cd5 ct5 : Value}
    (a5 : PySem.W.nsIn K mainGlobals "group_count" = some (some (.ref f5))) (l5 : K.lookup f5 = some ⟨oc5, od5, .func (PySem.W.fnOf "group_count" "group_count" (defArgs s_group_count) (defBody s_group_count) (defScope s_group_count) .none kV5 dc5 pm5 an5 cd5 ct5), sl5⟩) (c5 : PySem.W.codeIn K cd5 "group_count" = true) (k5 : PySem.W.keepIn K (.ref f5) = true)
    {f6 : Addr} {od6 an6 : Option Addr} {sl6 : Array (Option Value)} {oc6 kV6 dc6 pm6 cd6 ct6 : Value}
    (a6 : PySem.W.nsIn K mainGlobals "plan_count" = some (some (.ref f6))) (l6 : K.lookup f6 = some ⟨oc6, od6, .func (PySem.W.fnOf "plan_count" "plan_count" (defArgs s_plan_count) (defBody s_plan_count) (defScope s_plan_count) .none kV6 dc6 pm6 an6 cd6 ct6), sl6⟩) (c6 : PySem.W.codeIn K cd6 "plan_count" = true) (k6 : PySem.W.keepIn K (.ref f6) = true)
    {f7 : Addr} {od7 an7 : Option Addr} {sl7 : Array (Option Value)} {oc7 kV7 dc7 pm7 cd7 ct7 : Value}
    (a7 : PySem.W.nsIn K mainGlobals "free_days" = some (some (.ref f7))) (l7 : K.lookup f7 = some ⟨oc7, od7, .func (PySem.W.fnOf "free_days" "free_days" (defArgs s_free_days) (defBody s_free_days) (defScope s_free_days) .none kV7 dc7 pm7 an7 cd7 ct7), sl7⟩) (c7 : PySem.W.codeIn K cd7 "free_days" = true) (k7 : PySem.W.keepIn K (.ref f7) = true)
    {f8 : Addr} {od8 an8 : Option Addr} {sl8 : Array (Option Value)} {oc8 kV8 dc8 pm8 cd8 ct8 : Value}
    (a8 : PySem.W.nsIn K mainGlobals "days_left" = some (some (.ref f8))) (l8 : K.lookup f8 = some ⟨oc8, od8, .func (PySem.W.fnOf "days_left" "days_left" (defArgs s_days_left) (defBody s_days_left) (defScope s_days_left) .none kV8 dc8 pm8 an8 cd8 ct8), sl8⟩) (c8 : PySem.W.codeIn K cd8 "days_left" = true) (k8 : PySem.W.keepIn K (.ref f8) = true)
    {f9 : Addr} {od9 an9 : Option Addr} {sl9 : Array (Option Value)} {oc9 kV9 dc9 pm9 cd9 ct9 : Value}
    (a9 : PySem.W.nsIn K mainGlobals "days_to_try" = some (some (.ref f9))) (l9 : K.lookup f9 = some ⟨oc9, od9, .func (PySem.W.fnOf "days_to_try" "days_to_try" (defArgs s_days_to_try) (defBody s_days_to_try) (defScope s_days_to_try) .none kV9 dc9 pm9 an9 cd9 ct9), sl9⟩) (c9 : PySem.W.codeIn K cd9 "days_to_try" = true) (k9 : PySem.W.keepIn K (.ref f9) = true)
    {f10 : Addr} {od10 an10 : Option Addr} {sl10 : Array (Option Value)} {oc10 kV10 dc10 pm10 cd10 ct10 : Value}
    (a10 : PySem.W.nsIn K mainGlobals "with_day" = some (some (.ref f10))) (l10 : K.lookup f10 = some ⟨oc10, od10, .func (PySem.W.fnOf "with_day" "with_day" (defArgs s_with_day) (defBody s_with_day) (defScope s_with_day) .none kV10 dc10 pm10 an10 cd10 ct10), sl10⟩) (c10 : PySem.W.codeIn K cd10 "with_day" = true) (k10 : PySem.W.keepIn K (.ref f10) = true)
    {f11 : Addr} {od11 an11 : Option Addr} {sl11 : Array (Option Value)} {oc11 kV11 dc11 pm11 cd11 ct11 : Value}
    (a11 : PySem.W.nsIn K mainGlobals "hardest" = some (some (.ref f11))) (l11 : K.lookup f11 = some ⟨oc11, od11, .func (PySem.W.fnOf "hardest" "hardest" (defArgs s_hardest) (defBody s_hardest) (defScope s_hardest) .none kV11 dc11 pm11 an11 cd11 ct11), sl11⟩) (c11 : PySem.W.codeIn K cd11 "hardest" = true) (k11 : PySem.W.keepIn K (.ref f11) = true)
    {f12 : Addr} {od12 an12 : Option Addr} {sl12 : Array (Option Value)} {oc12 kV12 dc12 pm12 cd12 ct12 : Value}
    (a12 : PySem.W.nsIn K mainGlobals "searched" = some (some (.ref f12))) (l12 : K.lookup f12 = some ⟨oc12, od12, .func (PySem.W.fnOf "searched" "searched" (defArgs s_searched) (defBody s_searched) (defScope s_searched) .none kV12 dc12 pm12 an12 cd12 ct12), sl12⟩) (c12 : PySem.W.codeIn K cd12 "searched" = true) (k12 : PySem.W.keepIn K (.ref f12) = true)
    {f13 : Addr} {od13 an13 : Option Addr} {sl13 : Array (Option Value)} {oc13 kV13 dc13 pm13 cd13 ct13 : Value}
    (a13 : PySem.W.nsIn K mainGlobals "plan_within" = some (some (.ref f13))) (l13 : K.lookup f13 = some ⟨oc13, od13, .func (PySem.W.fnOf "plan_within" "plan_within" (defArgs s_plan_within) (defBody s_plan_within) (defScope s_plan_within) .none kV13 dc13 pm13 an13 cd13 ct13), sl13⟩) (c13 : PySem.W.codeIn K cd13 "plan_within" = true) (k13 : PySem.W.keepIn K (.ref f13) = true)
    {f14 : Addr} {od14 an14 : Option Addr} {sl14 : Array (Option Value)} {oc14 kV14 dc14 pm14 cd14 ct14 : Value}
    (a14 : PySem.W.nsIn K mainGlobals "_law_deal" = some (some (.ref f14))) (l14 : K.lookup f14 = some ⟨oc14, od14, .func (PySem.W.fnOf "_law_deal" "_law_deal" (defArgs s__law_deal) (defBody s__law_deal) (defScope s__law_deal) .none kV14 dc14 pm14 an14 cd14 ct14), sl14⟩) (c14 : PySem.W.codeIn K cd14 "_law_deal" = true) (k14 : PySem.W.keepIn K (.ref f14) = true)
    {f15 : Addr} {od15 an15 : Option Addr} {sl15 : Array (Option Value)} {oc15 kV15 dc15 pm15 cd15 ct15 : Value}
    (a15 : PySem.W.nsIn K mainGlobals "_law_take" = some (some (.ref f15))) (l15 : K.lookup f15 = some ⟨oc15, od15, .func (PySem.W.fnOf "_law_take" "_law_take" (defArgs s__law_take) (defBody s__law_take) (defScope s__law_take) .none kV15 dc15 pm15 an15 cd15 ct15), sl15⟩) (c15 : PySem.W.codeIn K cd15 "_law_take" = true) (k15 : PySem.W.keepIn K (.ref f15) = true)
    {f16 : Addr} {od16 an16 : Option Addr} {sl16 : Array (Option Value)} {oc16 kV16 dc16 pm16 cd16 ct16 : Value}
    (a16 : PySem.W.nsIn K mainGlobals "_law_same" = some (some (.ref f16))) (l16 : K.lookup f16 = some ⟨oc16, od16, .func (PySem.W.fnOf "_law_same" "_law_same" (defArgs s__law_same) (defBody s__law_same) (defScope s__law_same) .none kV16 dc16 pm16 an16 cd16 ct16), sl16⟩) (c16 : PySem.W.codeIn K cd16 "_law_same" = true) (k16 : PySem.W.keepIn K (.ref f16) = true)
    {f17 : Addr} {od17 an17 : Option Addr} {sl17 : Array (Option Value)} {oc17 kV17 dc17 pm17 cd17 ct17 : Value}
    (a17 : PySem.W.nsIn K mainGlobals "_law_plain" = some (some (.ref f17))) (l17 : K.lookup f17 = some ⟨oc17, od17, .func (PySem.W.fnOf "_law_plain" "_law_plain" (defArgs s__law_plain) (defBody s__law_plain) (defScope s__law_plain) .none kV17 dc17 pm17 an17 cd17 ct17), sl17⟩) (c17 : PySem.W.codeIn K cd17 "_law_plain" = true) (k17 : PySem.W.keepIn K (.ref f17) = true)
    {f18 : Addr} {od18 an18 : Option Addr} {sl18 : Array (Option Value)} {oc18 kV18 dc18 pm18 cd18 ct18 : Value}
    (a18 : PySem.W.nsIn K mainGlobals "_law_sided" = some (some (.ref f18))) (l18 : K.lookup f18 = some ⟨oc18, od18, .func (PySem.W.fnOf "_law_sided" "_law_sided" (defArgs s__law_sided) (defBody s__law_sided) (defScope s__law_sided) .none kV18 dc18 pm18 an18 cd18 ct18), sl18⟩) (c18 : PySem.W.codeIn K cd18 "_law_sided" = true) (k18 : PySem.W.keepIn K (.ref f18) = true)
    {f19 : Addr} {od19 an19 : Option Addr} {sl19 : Array (Option Value)} {oc19 kV19 dc19 pm19 cd19 ct19 : Value}
    (a19 : PySem.W.nsIn K mainGlobals "_law_any" = some (some (.ref f19))) (l19 : K.lookup f19 = some ⟨oc19, od19, .func (PySem.W.fnOf "_law_any" "_law_any" (defArgs s__law_any) (defBody s__law_any) (defScope s__law_any) .none kV19 dc19 pm19 an19 cd19 ct19), sl19⟩) (c19 : PySem.W.codeIn K cd19 "_law_any" = true) (k19 : PySem.W.keepIn K (.ref f19) = true)
    {f20 : Addr} {od20 an20 : Option Addr} {sl20 : Array (Option Value)} {oc20 kV20 dc20 pm20 cd20 ct20 : Value}
    (a20 : PySem.W.nsIn K mainGlobals "_law_few" = some (some (.ref f20))) (l20 : K.lookup f20 = some ⟨oc20, od20, .func (PySem.W.fnOf "_law_few" "_law_few" (defArgs s__law_few) (defBody s__law_few) (defScope s__law_few) .none kV20 dc20 pm20 an20 cd20 ct20), sl20⟩) (c20 : PySem.W.codeIn K cd20 "_law_few" = true) (k20 : PySem.W.keepIn K (.ref f20) = true)
    {f21 : Addr} {od21 an21 : Option Addr} {sl21 : Array (Option Value)} {oc21 kV21 dc21 pm21 cd21 ct21 : Value}
    (a21 : PySem.W.nsIn K mainGlobals "_law_web" = some (some (.ref f21))) (l21 : K.lookup f21 = some ⟨oc21, od21, .func (PySem.W.fnOf "_law_web" "_law_web" (defArgs s__law_web) (defBody s__law_web) (defScope s__law_web) .none kV21 dc21 pm21 an21 cd21 ct21), sl21⟩) (c21 : PySem.W.codeIn K cd21 "_law_web" = true) (k21 : PySem.W.keepIn K (.ref f21) = true)
    {f22 : Addr} {od22 an22 : Option Addr} {sl22 : Array (Option Value)} {oc22 kV22 dc22 pm22 cd22 ct22 : Value}
    (a22 : PySem.W.nsIn K mainGlobals "_law_clash" = some (some (.ref f22))) (l22 : K.lookup f22 = some ⟨oc22, od22, .func (PySem.W.fnOf "_law_clash" "_law_clash" (defArgs s__law_clash) (defBody s__law_clash) (defScope s__law_clash) .none kV22 dc22 pm22 an22 cd22 ct22), sl22⟩) (c22 : PySem.W.codeIn K cd22 "_law_clash" = true) (k22 : PySem.W.keepIn K (.ref f22) = true)
    {f23 : Addr} {od23 an23 : Option Addr} {sl23 : Array (Option Value)} {oc23 kV23 dc23 pm23 cd23 ct23 : Value}
    (a23 : PySem.W.nsIn K mainGlobals "_law_lay" = some (some (.ref f23))) (l23 : K.lookup f23 = some ⟨oc23, od23, .func (PySem.W.fnOf "_law_lay" "_law_lay" (defArgs s__law_lay) (defBody s__law_lay) (defScope s__law_lay) .none kV23 dc23 pm23 an23 cd23 ct23), sl23⟩) (c23 : PySem.W.codeIn K cd23 "_law_lay" = true) (k23 : PySem.W.keepIn K (.ref f23) = true)
    {f24 : Addr} {od24 an24 : Option Addr} {sl24 : Array (Option Value)} {oc24 kV24 dc24 pm24 cd24 ct24 : Value}
    (a24 : PySem.W.nsIn K mainGlobals "_law_falling" = some (some (.ref f24))) (l24 : K.lookup f24 = some ⟨oc24, od24, .func (PySem.W.fnOf "_law_falling" "_law_falling" (defArgs s__law_falling) (defBody s__law_falling) (defScope s__law_falling) .none kV24 dc24 pm24 an24 cd24 ct24), sl24⟩) (c24 : PySem.W.codeIn K cd24 "_law_falling" = true) (k24 : PySem.W.keepIn K (.ref f24) = true)
    {f25 : Addr} {od25 an25 : Option Addr} {sl25 : Array (Option Value)} {oc25 kV25 dc25 pm25 cd25 ct25 : Value}
    (a25 : PySem.W.nsIn K mainGlobals "_law_in_order" = some (some (.ref f25))) (l25 : K.lookup f25 = some ⟨oc25, od25, .func (PySem.W.fnOf "_law_in_order" "_law_in_order" (defArgs s__law_in_order) (defBody s__law_in_order) (defScope s__law_in_order) .none kV25 dc25 pm25 an25 cd25 ct25), sl25⟩) (c25 : PySem.W.codeIn K cd25 "_law_in_order" = true) (k25 : PySem.W.keepIn K (.ref f25) = true)
    {f26 : Addr} {od26 an26 : Option Addr} {sl26 : Array (Option Value)} {oc26 kV26 dc26 pm26 cd26 ct26 : Value}
    (a26 : PySem.W.nsIn K mainGlobals "_law_groups" = some (some (.ref f26))) (l26 : K.lookup f26 = some ⟨oc26, od26, .func (PySem.W.fnOf "_law_groups" "_law_groups" (defArgs s__law_groups) (defBody s__law_groups) (defScope s__law_groups) .none kV26 dc26 pm26 an26 cd26 ct26), sl26⟩) (c26 : PySem.W.codeIn K cd26 "_law_groups" = true) (k26 : PySem.W.keepIn K (.ref f26) = true)
    {f27 : Addr} {od27 an27 : Option Addr} {sl27 : Array (Option Value)} {oc27 kV27 dc27 pm27 cd27 ct27 : Value}
    (a27 : PySem.W.nsIn K mainGlobals "_law_one_more" = some (some (.ref f27))) (l27 : K.lookup f27 = some ⟨oc27, od27, .func (PySem.W.fnOf "_law_one_more" "_law_one_more" (defArgs s__law_one_more) (defBody s__law_one_more) (defScope s__law_one_more) .none kV27 dc27 pm27 an27 cd27 ct27), sl27⟩) (c27 : PySem.W.codeIn K cd27 "_law_one_more" = true) (k27 : PySem.W.keepIn K (.ref f27) = true)
    {f28 : Addr} {od28 an28 : Option Addr} {sl28 : Array (Option Value)} {oc28 kV28 dc28 pm28 cd28 ct28 : Value}
    (a28 : PySem.W.nsIn K mainGlobals "_law_new_person" = some (some (.ref f28))) (l28 : K.lookup f28 = some ⟨oc28, od28, .func (PySem.W.fnOf "_law_new_person" "_law_new_person" (defArgs s__law_new_person) (defBody s__law_new_person) (defScope s__law_new_person) .none kV28 dc28 pm28 an28 cd28 ct28), sl28⟩) (c28 : PySem.W.codeIn K cd28 "_law_new_person" = true) (k28 : PySem.W.keepIn K (.ref f28) = true)
    {f29 : Addr} {od29 an29 : Option Addr} {sl29 : Array (Option Value)} {oc29 kV29 dc29 pm29 cd29 ct29 : Value}
    (a29 : PySem.W.nsIn K mainGlobals "_law_beside" = some (some (.ref f29))) (l29 : K.lookup f29 = some ⟨oc29, od29, .func (PySem.W.fnOf "_law_beside" "_law_beside" (defArgs s__law_beside) (defBody s__law_beside) (defScope s__law_beside) .none kV29 dc29 pm29 an29 cd29 ct29), sl29⟩) (c29 : PySem.W.codeIn K cd29 "_law_beside" = true) (k29 : PySem.W.keepIn K (.ref f29) = true)
    {f30 : Addr} {od30 an30 : Option Addr} {sl30 : Array (Option Value)} {oc30 kV30 dc30 pm30 cd30 ct30 : Value}
    (a30 : PySem.W.nsIn K mainGlobals "_law_counted" = some (some (.ref f30))) (l30 : K.lookup f30 = some ⟨oc30, od30, .func (PySem.W.fnOf "_law_counted" "_law_counted" (defArgs s__law_counted) (defBody s__law_counted) (defScope s__law_counted) .none kV30 dc30 pm30 an30 cd30 ct30), sl30⟩) (c30 : PySem.W.codeIn K cd30 "_law_counted" = true) (k30 : PySem.W.keepIn K (.ref f30) = true)
    {f31 : Addr} {od31 an31 : Option Addr} {sl31 : Array (Option Value)} {oc31 kV31 dc31 pm31 cd31 ct31 : Value}
    (a31 : PySem.W.nsIn K mainGlobals "law" = some (some (.ref f31))) (l31 : K.lookup f31 = some ⟨oc31, od31, .func (PySem.W.fnOf "law" "law" (defArgs s_law) (defBody s_law) (defScope s_law) .none kV31 dc31 pm31 an31 cd31 ct31), sl31⟩) (c31 : PySem.W.codeIn K cd31 "law" = true) (k31 : PySem.W.keepIn K (.ref f31) = true)
    (z_abs : PySem.W.nsIn K mainGlobals "abs" = some none)
    (z_bool : PySem.W.nsIn K mainGlobals "bool" = some none)
    (z_dict : PySem.W.nsIn K mainGlobals "dict" = some none)
    (z_int : PySem.W.nsIn K mainGlobals "int" = some none)
    (z_isinstance : PySem.W.nsIn K mainGlobals "isinstance" = some none)
    (z_len : PySem.W.nsIn K mainGlobals "len" = some none)
    (z_list : PySem.W.nsIn K mainGlobals "list" = some none)
    (z_max : PySem.W.nsIn K mainGlobals "max" = some none)
    (z_min : PySem.W.nsIn K mainGlobals "min" = some none)
    (z_range : PySem.W.nsIn K mainGlobals "range" = some none)
    (z_str : PySem.W.nsIn K mainGlobals "str" = some none)
    (z_sum : PySem.W.nsIn K mainGlobals "sum" = some none)
    (z_tuple : PySem.W.nsIn K mainGlobals "tuple" = some none)
    {t_STUCK : Tok} (y_STUCK : PySem.W.nsIn K mainGlobals "STUCK" = some (some (.str ("stuck" : Str) t_STUCK)))
    {t_TRY : Tok} (y_TRY : PySem.W.nsIn K mainGlobals "TRY" = some (some (.str ("try" : Str) t_TRY)))
    (pure_law : ∀ ns : List Int, ns.length ≤ 63 → ∃ m', m_law [.d (.scr ns)] [] = some (.d (.bl true), m')) :
    ∃ fd : FuncData, (∀ (s : Shared) (v : Value), BindsTo s fd ⟨[v], []⟩ [("script", v)]) ∧ ∀ base : Heap, K.In base → base.Ns mainGlobals mg → FnOk l.prog w K mg base CX0 28 fa fd ["script"] (spLaw K) := by
  have e := hfa.symm.trans (PySem.W.mg_of X G a31)
  cases e
  have T : Tops K mg := ⟨PySem.W.mg_none_of X G z_abs, PySem.W.mg_none_of X G z_bool, PySem.W.mg_none_of X G z_dict, PySem.W.mg_none_of X G z_int, PySem.W.mg_none_of X G z_isinstance, PySem.W.mg_none_of X G z_len, PySem.W.mg_none_of X G z_list, PySem.W.mg_none_of X G z_max, PySem.W.mg_none_of X G z_min, PySem.W.mg_none_of X G z_range, PySem.W.mg_none_of X G z_str, PySem.W.mg_none_of X G z_sum, PySem.W.mg_none_of X G z_tuple, ⟨_, PySem.W.mg_of X G y_STUCK, ⟨_, rfl⟩⟩, ⟨_, PySem.W.mg_of X G y_TRY, ⟨_, rfl⟩⟩⟩
  have Z_meetings_of := at_of (x := "meetings_of") (ps := ["web", "person"]) (st := s_meetings_of) X G a0 l0 c0 k0 (fun _ _ _ _ _ _ us hl => match us, hl with | [_, _], _ => rfl)
  have Z_clash := at_of (x := "clash") (ps := ["web", "i", "j"]) (st := s_clash) X G a1 l1 c1 k1 (fun _ _ _ _ _ _ us hl => match us, hl with | [_, _, _], _ => rfl)
  have Z_clashing := at_of (x := "clashing") (ps := ["web", "i"]) (st := s_clashing) X G a2 l2 c2 k2 (fun _ _ _ _ _ _ us hl => match us, hl with | [_, _], _ => rfl)
  have Z_with_meeting := at_of (x := "with_meeting") (ps := ["web", "a", "b"]) (st := s_with_meeting) X G a3 l3 c3 k3 (fun _ _ _ _ _ _ us hl => match us, hl with | [_, _, _], _ => rfl)
  have Z_groupings := at_of (x := "groupings") (ps := ["web"]) (st := s_groupings) X G a4 l4 c4 k4 (fun _ _ _ _ _ _ us hl => match us, hl with | [_], _ => rfl)
  have Z_group_count := at_of (x := "group_count") (ps := ["web", "g"]) (st := s_group_count) X G a5 l5 c5 k5 (fun _ _ _ _ _ _ us hl => match us, hl with | [_, _], _ => rfl)
  have Z_plan_count := at_of (x := "plan_count") (ps := ["web", "k"]) (st := s_plan_count) X G a6 l6 c6 k6 (fun _ _ _ _ _ _ us hl => match us, hl with | [_, _], _ => rfl)
  have Z_free_days := at_of (x := "free_days") (ps := ["web", "plan", "person", "k"]) (st := s_free_days) X G a7 l7 c7 k7 (fun _ _ _ _ _ _ us hl => match us, hl with | [_, _, _, _], _ => rfl)
  have Z_days_left := at_of (x := "days_left") (ps := ["web", "days", "i", "k"]) (st := s_days_left) X G a8 l8 c8 k8 (fun _ _ _ _ _ _ us hl => match us, hl with | [_, _, _, _], _ => rfl)
  have Z_days_to_try := at_of (x := "days_to_try") (ps := ["web", "days", "i", "k"]) (st := s_days_to_try) X G a9 l9 c9 k9 (fun _ _ _ _ _ _ us hl => match us, hl with | [_, _, _, _], _ => rfl)
  have Z_with_day := at_of (x := "with_day") (ps := ["days", "i", "day"]) (st := s_with_day) X G a10 l10 c10 k10 (fun _ _ _ _ _ _ us hl => match us, hl with | [_, _, _], _ => rfl)
  have Z_hardest := at_of (x := "hardest") (ps := ["web", "days", "k"]) (st := s_hardest) X G a11 l11 c11 k11 (fun _ _ _ _ _ _ us hl => match us, hl with | [_, _, _], _ => rfl)
  have Z_searched := at_of (x := "searched") (ps := ["web", "k", "days"]) (st := s_searched) X G a12 l12 c12 k12 (fun _ _ _ _ _ _ us hl => match us, hl with | [_, _, _], _ => rfl)
  have Z_plan_within := at_of (x := "plan_within") (ps := ["web", "k"]) (st := s_plan_within) X G a13 l13 c13 k13 (fun _ _ _ _ _ _ us hl => match us, hl with | [_, _], _ => rfl)
  have Z__law_deal := at_of (x := "_law_deal") (ps := ["script"]) (st := s__law_deal) X G a14 l14 c14 k14 (fun _ _ _ _ _ _ us hl => match us, hl with | [_], _ => rfl)
  have Z__law_take := at_of (x := "_law_take") (ps := ["deal", "many"]) (st := s__law_take) X G a15 l15 c15 k15 (fun _ _ _ _ _ _ us hl => match us, hl with | [_, _], _ => rfl)
  have Z__law_same := at_of (x := "_law_same") (ps := ["a", "b"]) (st := s__law_same) X G a16 l16 c16 k16 (fun _ _ _ _ _ _ us hl => match us, hl with | [_, _], _ => rfl)
  have Z__law_plain := at_of (x := "_law_plain") (ps := ["deal", "most", "limit"]) (st := s__law_plain) X G a17 l17 c17 k17 (fun _ _ _ _ _ _ us hl => match us, hl with | [_, _, _], _ => rfl)
  have Z__law_sided := at_of (x := "_law_sided") (ps := ["deal", "most", "limit"]) (st := s__law_sided) X G a18 l18 c18 k18 (fun _ _ _ _ _ _ us hl => match us, hl with | [_, _, _], _ => rfl)
  have Z__law_any := at_of (x := "_law_any") (ps := ["deal", "limit"]) (st := s__law_any) X G a19 l19 c19 k19 (fun _ _ _ _ _ _ us hl => match us, hl with | [_, _], _ => rfl)
  have Z__law_few := at_of (x := "_law_few") (ps := ["deal"]) (st := s__law_few) X G a20 l20 c20 k20 (fun _ _ _ _ _ _ us hl => match us, hl with | [_], _ => rfl)
  have Z__law_web := at_of (x := "_law_web") (ps := ["deal", "limit"]) (st := s__law_web) X G a21 l21 c21 k21 (fun _ _ _ _ _ _ us hl => match us, hl with | [_, _], _ => rfl)
  have Z__law_clash := at_of (x := "_law_clash") (ps := ["web", "i", "j"]) (st := s__law_clash) X G a22 l22 c22 k22 (fun _ _ _ _ _ _ us hl => match us, hl with | [_, _, _], _ => rfl)
  have Z__law_lay := at_of (x := "_law_lay") (ps := ["web", "k"]) (st := s__law_lay) X G a23 l23 c23 k23 (fun _ _ _ _ _ _ us hl => match us, hl with | [_, _], _ => rfl)
  have Z__law_falling := at_of (x := "_law_falling") (ps := ["k", "g"]) (st := s__law_falling) X G a24 l24 c24 k24 (fun _ _ _ _ _ _ us hl => match us, hl with | [_, _], _ => rfl)
  have Z__law_in_order := at_of (x := "_law_in_order") (ps := ["plan"]) (st := s__law_in_order) X G a25 l25 c25 k25 (fun _ _ _ _ _ _ us hl => match us, hl with | [_], _ => rfl)
  have Z__law_groups := at_of (x := "_law_groups") (ps := ["web"]) (st := s__law_groups) X G a26 l26 c26 k26 (fun _ _ _ _ _ _ us hl => match us, hl with | [_], _ => rfl)
  have Z__law_one_more := at_of (x := "_law_one_more") (ps := ["deal", "web", "plans", "k"]) (st := s__law_one_more) X G a27 l27 c27 k27 (fun _ _ _ _ _ _ us hl => match us, hl with | [_, _, _, _], _ => rfl)
  have Z__law_new_person := at_of (x := "_law_new_person") (ps := ["deal", "web", "plans", "k"]) (st := s__law_new_person) X G a28 l28 c28 k28 (fun _ _ _ _ _ _ us hl => match us, hl with | [_, _, _, _], _ => rfl)
  have Z__law_beside := at_of (x := "_law_beside") (ps := ["web", "other", "k"]) (st := s__law_beside) X G a29 l29 c29 k29 (fun _ _ _ _ _ _ us hl => match us, hl with | [_, _, _], _ => rfl)
  have Z__law_counted := at_of (x := "_law_counted") (ps := ["deal", "web"]) (st := s__law_counted) X G a30 l30 c30 k30 (fun _ _ _ _ _ _ us hl => match us, hl with | [_, _], _ => rfl)
  have Z_law := at_of (x := "law") (ps := ["script"]) (st := s_law) X G a31 l31 c31 k31 (fun _ _ _ _ _ _ us hl => match us, hl with | [_], _ => rfl)
  exact ⟨_, fun s v => .of_eq rfl, fun base _ _ => (ok_all T Z_meetings_of Z_clash Z_clashing Z_with_meeting Z_groupings Z_group_count Z_plan_count Z_free_days Z_days_left Z_days_to_try Z_with_day Z_hardest Z_searched Z_plan_within Z__law_deal Z__law_take Z__law_same Z__law_plain Z__law_sided Z__law_any Z__law_few Z__law_web Z__law_clash Z__law_lay Z__law_falling Z__law_in_order Z__law_groups Z__law_one_more Z__law_new_person Z__law_beside Z__law_counted Z_law).imp (law_imp pure_law)⟩
section
end
end Lw
open PySem PySem.W PyProof.Rows
set_option maxHeartbeats 0 in
theorem PySem.Challenge.cw_meetingdays_k15_whole_counts_of_plans_holds : PySem.Challenge.rw_meetingdays_k15_whole_counts_of_plans.Holds := by
  w_on; o_law; k_head; (case hw => w_witness2)
  k_fill
  refine L2.walk_of (l := PySem.Challenge.rw_meetingdays_k15_whole_counts_of_plans) (n := 63) (k := 28) (x := "script") (CX := fun _ => L2.CX0) (sp := fun w => PL.spLaw _) rfl (by decide) rfl ⟨rfl, by decide, by decide⟩ (fun w h Y => PySem.W.kIn_of Y) ?F (fun _ _ a ns hl _ hS => ⟨a, ns, rfl, hS, hl, fun _ => rfl⟩) (fun _ _ _ _ _ h => h)
  case F =>
    intro w mg fa h KX G hmg
    refine' Lw.all_mk KX G hmg ?a0 ?l0 ?c0 ?k0 ?a1 ?l1 ?c1 ?k1 ?a2 ?l2 ?c2 ?k2 ?a3 ?l3 ?c3 ?k3 ?a4 ?l4 ?c4 ?k4 ?a5 ?l5 ?c5 ?k5 ?a6 ?l6 ?c6 ?k6 ?a7 ?l7 ?c7 ?k7 ?a8 ?l8 ?c8 ?k8 ?a9 ?l9 ?c9 ?k9 ?a10 ?l10 ?c10 ?k10 ?a11 ?l11 ?c11 ?k11 ?a12 ?l12 ?c12 ?k12 ?a13 ?l13 ?c13 ?k13 ?a14 ?l14 ?c14 ?k14 ?a15 ?l15 ?c15 ?k15 ?a16 ?l16 ?c16 ?k16 ?a17 ?l17 ?c17 ?k17 ?a18 ?l18 ?c18 ?k18 ?a19 ?l19 ?c19 ?k19 ?a20 ?l20 ?c20 ?k20 ?a21 ?l21 ?c21 ?k21 ?a22 ?l22 ?c22 ?k22 ?a23 ?l23 ?c23 ?k23 ?a24 ?l24 ?c24 ?k24 ?a25 ?l25 ?c25 ?k25 ?a26 ?l26 ?c26 ?k26 ?a27 ?l27 ?c27 ?k27 ?a28 ?l28 ?c28 ?k28 ?a29 ?l29 ?c29 ?k29 ?a30 ?l30 ?c30 ?k30 ?a31 ?l31 ?c31 ?k31 ?z_abs ?z_bool ?z_dict ?z_int ?z_isinstance ?z_len ?z_list ?z_max ?z_min ?z_range ?z_str ?z_sum ?z_tuple ?y_STUCK ?y_TRY Lw.pure_law
    (case a0 => k_is)
    (case l0 => k_is)
    (case c0 => k_is)
    (case k0 => k_is)
    (case a1 => k_is)
    (case l1 => k_is)
    (case c1 => k_is)
    (case k1 => k_is)
    (case a2 => k_is)
    (case l2 => k_is)
    (case c2 => k_is)
    (case k2 => k_is)
    (case a3 => k_is)
    (case l3 => k_is)
    (case c3 => k_is)
    (case k3 => k_is)
    (case a4 => k_is)
    (case l4 => k_is)
    (case c4 => k_is)
    (case k4 => k_is)
    (case a5 => k_is)
    (case l5 => k_is)
    (case c5 => k_is)
    (case k5 => k_is)
    (case a6 => k_is)
    (case l6 => k_is)
    (case c6 => k_is)
    (case k6 => k_is)
    (case a7 => k_is)
    (case l7 => k_is)
    (case c7 => k_is)
    (case k7 => k_is)
    (case a8 => k_is)
    (case l8 => k_is)
    (case c8 => k_is)
    (case k8 => k_is)
    (case a9 => k_is)
    (case l9 => k_is)
    (case c9 => k_is)
    (case k9 => k_is)
    (case a10 => k_is)
    (case l10 => k_is)
    (case c10 => k_is)
    (case k10 => k_is)
    (case a11 => k_is)
    (case l11 => k_is)
    (case c11 => k_is)
    (case k11 => k_is)
    (case a12 => k_is)
    (case l12 => k_is)
    (case c12 => k_is)
    (case k12 => k_is)
    (case a13 => k_is)
    (case l13 => k_is)
    (case c13 => k_is)
    (case k13 => k_is)
    (case a14 => k_is)
    (case l14 => k_is)
    (case c14 => k_is)
    (case k14 => k_is)
    (case a15 => k_is)
    (case l15 => k_is)
    (case c15 => k_is)
    (case k15 => k_is)
    (case a16 => k_is)
    (case l16 => k_is)
    (case c16 => k_is)
    (case k16 => k_is)
    (case a17 => k_is)
    (case l17 => k_is)
    (case c17 => k_is)
    (case k17 => k_is)
    (case a18 => k_is)
    (case l18 => k_is)
    (case c18 => k_is)
    (case k18 => k_is)
    (case a19 => k_is)
    (case l19 => k_is)
    (case c19 => k_is)
    (case k19 => k_is)
    (case a20 => k_is)
    (case l20 => k_is)
    (case c20 => k_is)
    (case k20 => k_is)
    (case a21 => k_is)
    (case l21 => k_is)
    (case c21 => k_is)
    (case k21 => k_is)
    (case a22 => k_is)
    (case l22 => k_is)
    (case c22 => k_is)
    (case k22 => k_is)
    (case a23 => k_is)
    (case l23 => k_is)
    (case c23 => k_is)
    (case k23 => k_is)
    (case a24 => k_is)
    (case l24 => k_is)
    (case c24 => k_is)
    (case k24 => k_is)
    (case a25 => k_is)
    (case l25 => k_is)
    (case c25 => k_is)
    (case k25 => k_is)
    (case a26 => k_is)
    (case l26 => k_is)
    (case c26 => k_is)
    (case k26 => k_is)
    (case a27 => k_is)
    (case l27 => k_is)
    (case c27 => k_is)
    (case k27 => k_is)
    (case a28 => k_is)
    (case l28 => k_is)
    (case c28 => k_is)
    (case k28 => k_is)
    (case a29 => k_is)
    (case l29 => k_is)
    (case c29 => k_is)
    (case k29 => k_is)
    (case a30 => k_is)
    (case l30 => k_is)
    (case c30 => k_is)
    (case k30 => k_is)
    (case a31 => k_is)
    (case l31 => k_is)
    (case c31 => k_is)
    (case k31 => k_is)
    (case z_abs => k_is)
    (case z_bool => k_is)
    (case z_dict => k_is)
    (case z_int => k_is)
    (case z_isinstance => k_is)
    (case z_len => k_is)
    (case z_list => k_is)
    (case z_max => k_is)
    (case z_min => k_is)
    (case z_range => k_is)
    (case z_str => k_is)
    (case z_sum => k_is)
    (case z_tuple => k_is)
    (case y_STUCK => k_is)
    (case y_TRY => k_is)
