import PyProof.Rows.All
import Wide.All
import OpenK.AllK
import Wide.FinOn
import HandS.ForMost
import HandS.ForExc
import HandS.IsInst
import HandS.Flow
import HandS.Deep
import HandS.TryMany
import HandS.Wide
import HandS.TupAny
import HandS.Style
import HandS.Walk
import KE.LtData
import HandS.Dict
import HandS.More
import HandS.TupMul
import HandS.CallSlots
import HandS.Defaults
import HandS.Rev
import HandS.Zip
import HandS.Small
import KE.KRevSl
import HandS.HeadHook2
import HandS.HeadHook3
import HandS.HeadHook4
import HandS.HeadEnd
import HandS.WordsExc
import HandS.Head0
import HandS.Head1
import HandS.Head2
import PySem.Challenge.RW_wovensworn_k05_expressions_and_their_val
set_option Elab.async false
set_option linter.all false
set_option maxRecDepth 100000
set_option maxHeartbeats 4000000
namespace WV
open PySem PySem.Spec PyProof.Rows L2

abbrev D := PyData
/-- the module's objects, the world and the program: what a written value's description leans on -/
structure KW where
  k : PySem.W.Frag
  w : World
  p : Program
instance : CoeOut KW PySem.W.Frag := ⟨KW.k⟩
abbrev _root_.L2.Cx.KW (X : Cx) : KW := ⟨X.K, X.w, X.prog⟩

/-! ## dicts by data -/
def keyV : D → Option Key
  | .int i => some (.inl i)
  | .str x => some (.inr x)
  | _ => none
def keyD : Key → D
  | .inl i => .int i
  | .inr x => .str x
theorem keyV_D (k : Key) : keyV (keyD k) = some k := by cases k <;> rfl
theorem keyV_some {d : D} {k : Key} (h : keyV d = some k) : d = keyD k := by
  cases d <;> cases h <;> rfl
def dGet (kvs : List (D × D)) (k : Key) : Option D := (kvs.find? fun p => decide (keyV p.1 = some k)).map (·.2)
def dPut (kvs : List (D × D)) (k : Key) (d : D) : List (D × D) :=
  if (kvs.any fun p => decide (keyV p.1 = some k)) = true then kvs.map (fun p => if keyV p.1 = some k then (p.1, d) else p) else kvs ++ [(keyD k, d)]
def isTxt : D → Bool
  | .str _ => true
  | _ => false
/-- may the key be looked up -/
def dOk (kvs : List (D × D)) : Key → Bool
  | .inr _ => true
  | .inl _ => !(!kvs.isEmpty && kvs.all fun p => isTxt p.1)
inductive flatR : V → D → Prop
  | non : flatR .non .none
  | bl (b : Bool) : flatR (.bl b) (.bool b)
  | int (i : Int) : flatR (.int i) (.int i)
  | str (x : Str) : flatR (.str x) (.str x)
/-- a dict of the module with text keys and plain values -/
def KDK (K : KW) (a : Addr) (kvs : List (D × D)) : Prop :=
  (!kvs.isEmpty && kvs.all fun p => isTxt p.1) = true ∧ (∃ es n, KDict K.k K.w a es n) ∧
    ∀ z : Str, ∃ r, PySem.W.nsIn K.k a z = some r ∧ match dGet kvs (.inr z) with
      | none => r = none
      | some d => ∃ u v, r = some u ∧ RelV v u ∧ flatR v d

/-! ## data in a heap -/
mutual
inductive Rep (K : KW) (F : Hp) : V → D → Prop
  | non : Rep K F .non .none
  | bl (b : Bool) : Rep K F (.bl b) (.bool b)
  | int (i : Int) : Rep K F (.int i) (.int i)
  | str (x : Str) : Rep K F (.str x) (.str x)
  | lst {a : Addr} {xs : List V} {ds : List D} : F a = some (.lst xs) → RepA K F xs ds → Rep K F (.ref a) (.list ds)
  | tup {a : Addr} {xs : List V} {ds : List D} : SqT K F a xs → RepA K F xs ds → Rep K F (.ref a) (.tuple ds)
  | dmx {a : Addr} {ks : List Key} {vs : List V} {kvs : List (D × D)} : F a = some (.dK (ks.zip vs)) → kvs.map (·.1) = ks.map keyD → RepA K F vs (kvs.map (·.2)) → Rep K F (.ref a) (.dict kvs)
  | kdc {a : Addr} {kvs : List (D × D)} : KDK K a kvs → Rep K F (.ref a) (.dict kvs)
inductive RepA (K : KW) (F : Hp) : List V → List D → Prop
  | nil : RepA K F [] []
  | cons {v : V} {vs : List V} {d : D} {ds : List D} : Rep K F v d → RepA K F vs ds → RepA K F (v :: vs) (d :: ds)
end

theorem seqL_mono {K : KW} {F F' : Hp} (s : Same F F') {a : Addr} {xs : List V} (h : SqL K F a xs) : SqL K F' a xs := by
  rcases h with (h | ⟨o, h⟩) | h
  · exact .inl (.inl (s _ _ h))
  · exact .inl (.inr ⟨o, s _ _ h⟩)
  · exact .inr h
theorem seqT_mono {K : KW} {F F' : Hp} (s : Same F F') {a : Addr} {xs : List V} (h : SqT K F a xs) : SqT K F' a xs := by
  rcases h with (h | ⟨o, h⟩) | h
  · exact .inl (.inl (s _ _ h))
  · exact .inl (.inr ⟨o, s _ _ h⟩)
  · exact .inr h
mutual
theorem Rep.mono {K : KW} {F F' : Hp} (s : Same F F') : ∀ {v : V} {d : D}, Rep K F v d → Rep K F' v d
  | _, _, .non => .non
  | _, _, .bl b => .bl b
  | _, _, .int i => .int i
  | _, _, .str x => .str x
  | _, _, .lst h r => .lst (s _ _ h) (RepA.mono s r)
  | _, _, .tup h r => .tup (seqT_mono s h) (RepA.mono s r)
  | _, _, .dmx h e r => .dmx (s _ _ h) e (RepA.mono s r)
  | _, _, .kdc h => .kdc h
theorem RepA.mono {K : KW} {F F' : Hp} (s : Same F F') : ∀ {vs : List V} {ds : List D}, RepA K F vs ds → RepA K F' vs ds
  | _, _, .nil => .nil
  | _, _, .cons h r => .cons (Rep.mono s h) (RepA.mono s r)
end
section
variable {K : KW} {F F' H H' : Hp} {v : V} {vs ws : List V} {d : D} {ds es : List D}
theorem RepA.length : ∀ {vs : List V} {ds : List D}, RepA K F vs ds → vs.length = ds.length
  | _, _, .nil => rfl
  | _, _, .cons _ r => by rw [List.length_cons, List.length_cons, RepA.length r]
theorem RepA.append : ∀ {vs ws : List V} {ds es : List D}, RepA K F vs ds → RepA K F ws es → RepA K F (vs ++ ws) (ds ++ es)
  | _, _, _, _, .nil, s => s
  | _, _, _, _, .cons h r, s => .cons h (RepA.append r s)
theorem RepA.get : ∀ {vs : List V} {ds : List D} {i : Nat} {d : D}, RepA K F vs ds → ds[i]? = some d → ∃ v, vs[i]? = some v ∧ Rep K F v d
  | _, _, _, _, .nil, e => by simp at e
  | _, _, 0, _, .cons h _, e => by simp at e; subst e; exact ⟨_, rfl, h⟩
  | _, _, i + 1, _, .cons _ r, e => by
    obtain ⟨v, e1, h⟩ := RepA.get (i := i) r (by simpa using e)
    exact ⟨v, by simpa using e1, h⟩
theorem RepA.get' : ∀ {vs : List V} {ds : List D} {i : Nat} {v : V}, RepA K F vs ds → vs[i]? = some v → ∃ d, ds[i]? = some d ∧ Rep K F v d
  | _, _, _, _, .nil, e => by simp at e
  | _, _, 0, _, .cons h _, e => by simp at e; subst e; exact ⟨_, rfl, h⟩
  | _, _, i + 1, _, .cons _ r, e => by
    obtain ⟨v, e1, h⟩ := RepA.get' (i := i) r (by simpa using e)
    exact ⟨v, by simpa using e1, h⟩
theorem RepA.take : ∀ {vs : List V} {ds : List D} (n : Nat), RepA K F vs ds → RepA K F (vs.take n) (ds.take n)
  | _, _, 0, _ => .nil
  | _, _, _ + 1, .nil => .nil
  | _, _, n + 1, .cons h r => .cons h (RepA.take n r)
theorem RepA.drop : ∀ {vs : List V} {ds : List D} (n : Nat), RepA K F vs ds → RepA K F (vs.drop n) (ds.drop n)
  | _, _, 0, h => h
  | _, _, _ + 1, .nil => .nil
  | _, _, n + 1, .cons _ r => RepA.drop n r
theorem RepA.set : ∀ {vs : List V} {ds : List D} (n : Nat) {v : V} {d : D}, RepA K F vs ds → Rep K F v d → RepA K F (vs.set n v) (ds.set n d)
  | _, _, _, _, _, .nil, _ => .nil
  | _, _, 0, _, _, .cons _ r, q => .cons q r
  | _, _, n + 1, _, _, .cons h r, q => .cons h (RepA.set n r q)
theorem RepA.eraseIdx : ∀ {vs : List V} {ds : List D} (n : Nat), RepA K F vs ds → RepA K F (vs.eraseIdx n) (ds.eraseIdx n)
  | _, _, _, .nil => .nil
  | _, _, 0, .cons _ r => r
  | _, _, n + 1, .cons h r => .cons h (RepA.eraseIdx n r)
theorem RepA.dropLast : ∀ {vs : List V} {ds : List D}, RepA K F vs ds → RepA K F vs.dropLast ds.dropLast
  | _, _, .nil => .nil
  | _, _, .cons _ .nil => .nil
  | _, _, .cons h (.cons h2 r) => .cons h (RepA.dropLast (.cons h2 r))
theorem RepA.reverse : ∀ {vs : List V} {ds : List D}, RepA K F vs ds → RepA K F vs.reverse ds.reverse
  | _, _, .nil => .nil
  | _, _, .cons h r => by
    rw [List.reverse_cons, List.reverse_cons]
    exact (RepA.reverse r).append (.cons h .nil)
theorem RepA.ints : ∀ {vs : List V} {ns : List Int}, RepA K F vs (ns.map PyData.int) → vs = ns.map V.int
  | _, [], .nil => rfl
  | _, n :: ns, .cons h r => by
    cases h
    rw [RepA.ints r]
    rfl
theorem RepA.of_ints : ∀ {ns : List Int}, RepA K F (ns.map V.int) (ns.map PyData.int)
  | [] => .nil
  | n :: ns => .cons (.int n) RepA.of_ints
theorem RepA.bls : ∀ {vs : List V} {bs : List Bool}, RepA K F vs (bs.map PyData.bool) → vs = bs.map V.bl
  | _, [], .nil => rfl
  | _, n :: ns, .cons h r => by
    cases h
    rw [RepA.bls r]
    rfl
end
mutual
theorem Rep.dp {K : KW} {F : Hp} : ∀ {v : V} {d : D}, Rep K F v d → d.canLay0 = true → Dp K F v d
  | _, _, .non, _ => .non
  | _, _, .bl b, _ => .bl b
  | _, _, .int i, _ => .int i
  | _, _, .str x, _ => .str x
  | _, _, .lst h r, c => .lst (SqL.of h) (RepA.dp r (by simpa [PyData.canLay0] using c))
  | _, _, .tup h r, c => .tup h (RepA.dp r (by simpa [PyData.canLay0] using c))
  | _, _, .dmx _ _ _, c => by simp [PyData.canLay0] at c
  | _, _, .kdc _, c => by simp [PyData.canLay0] at c
theorem RepA.dp {K : KW} {F : Hp} : ∀ {vs : List V} {ds : List D}, RepA K F vs ds → PyData.canLayAll0 ds = true → DpAll K F vs ds
  | _, _, .nil, _ => .nil
  | _, _, .cons h r, c => by
    have c2 := Bool.and_eq_true_iff.mp (show (PyData.canLay0 _ && PyData.canLayAll0 _) = true by simpa [PyData.canLayAll0] using c)
    exact .cons (Rep.dp h c2.1) (RepA.dp r c2.2)
end

/-- a container of one's own at a -/
def Own (K : KW) (F H : Hp) (a : Addr) : D → Prop
  | .list ds => ∃ vs, H a = some (.lst vs) ∧ RepA K F vs ds
  | .dict kvs => ∃ (ks : List Key) (vs : List V), H a = some (.dK (ks.zip vs)) ∧ kvs.map (·.1) = ks.map keyD ∧ RepA K F vs (kvs.map (·.2))
  | _ => False
/-- to be read now: a value, or a container of one's own -/
def BRep (K : KW) (F H : Hp) (v : V) (d : D) : Prop := Rep K F v d ∨ ∃ a, v = .ref a ∧ Own K F H a d
/-- new things are laid, and frozen -/
structure NewF (F H F' H' : Hp) : Prop where
  hs : Same H H'
  fs : Same F F'
  fh : Same F' H'
  nw : ∀ a, F' a ≠ none → F a ≠ none ∨ H a = none
inductive RV where
  | sh (d : D)
  | fr (d : D)
def RV.dat : RV → D
  | .sh d => d
  | .fr d => d
def RRep (K : KW) (H0 F H : Hp) (v : V) : RV → Prop
  | .sh d => Rep K F v d
  | .fr d => ∃ a, v = .ref a ∧ F a = none ∧ H0 a = none ∧ Own K F H a d

section
variable {K : KW} {F F' F2 H H' H2 : Hp} {a : Addr} {o : HO} {v : V} {d : D}
theorem same_refl : Same H H := fun _ _ e => e
theorem Same.trans' (a : Same H H') (b : Same H' H2) : Same H H2 := fun x o e => b x o (a x o e)
theorem same_new (h : H a = none) : Same H (upd H a o) := fun b u e => by
  rw [upd_ne (ne_of_none e h)]
  exact e
theorem NewF.refl (s : Same F H) : NewF F H F H := ⟨same_refl, same_refl, s, fun _ h => .inl h⟩
theorem NewF.trans (x : NewF F H F' H') (y : NewF F' H' F2 H2) : NewF F H F2 H2 := by
  refine ⟨Same.trans' x.hs y.hs, Same.trans' x.fs y.fs, y.fh, fun a h => ?_⟩
  rcases y.nw a h with q | q
  · exact x.nw a q
  · refine .inr ?_
    cases e : H a with
    | none => rfl
    | some u => rw [x.hs a u e] at q; cases q
/-- a new thing, frozen -/
theorem NewF.one (s : Same F H) (h : H a = none) : NewF F H (upd F a o) (upd H a o) := by
  have hf : F a = none := by
    cases e : F a with
    | none => rfl
    | some u => rw [s a u e] at h; cases h
  refine ⟨same_new h, same_new hf, fun b u e => ?_, fun b e => ?_⟩
  · by_cases q : b = a
    · subst q; rw [upd_same] at e ⊢; exact e
    · rw [upd_ne q] at e ⊢; exact s b u e
  · by_cases q : b = a
    · subst q; exact .inr h
    · rw [upd_ne q] at e; exact .inl e
/-- a new thing, not frozen -/
theorem NewF.own (s : Same F H) (h : H a = none) : NewF F H F (upd H a o) :=
  ⟨same_new h, same_refl, fun b u e => same_new h b u (s b u e), fun _ e => .inl e⟩
theorem none_of_same (s : Same F H) (h : H a = none) : F a = none := by
  cases e : F a with
  | none => rfl
  | some u => rw [s a u e] at h; cases h
theorem BRep.rep (s : Same F H) (h : BRep K F H v d) : Rep K H v d := by
  rcases h with h | ⟨a, rfl, h⟩
  · exact h.mono s
  · cases d with
    | list ds =>
      obtain ⟨vs, e, r⟩ := h
      exact .lst e (r.mono s)
    | dict kvs =>
      obtain ⟨ks, vs, e, ek, r⟩ := h
      exact .dmx e ek (r.mono s)
    | _ => exact h.elim
theorem BRep.lst (s : Same F H) {ds : List D} (h : BRep K F H v (.list ds)) : ∃ a vs, v = .ref a ∧ H a = some (.lst vs) ∧ RepA K F vs ds := by
  rcases h with h | ⟨a, rfl, vs, e, r⟩
  · cases h with
    | lst q r => exact ⟨_, _, rfl, s _ _ q, r⟩
  · exact ⟨a, vs, rfl, e, r⟩
theorem BRep.tup (s : Same F H) {ds : List D} (h : BRep K F H v (.tuple ds)) : ∃ a vs, v = .ref a ∧ SqT K H a vs ∧ RepA K F vs ds := by
  rcases h with h | ⟨a, rfl, h⟩
  · cases h with
    | tup q r => exact ⟨_, _, rfl, seqT_mono s q, r⟩
  · exact h.elim
theorem BRep.int {i : Int} (h : BRep K F H v (.int i)) : v = .int i := by
  rcases h with h | ⟨a, rfl, h⟩
  · cases h; rfl
  · exact h.elim
theorem BRep.bl {i : Bool} (h : BRep K F H v (.bool i)) : v = .bl i := by
  rcases h with h | ⟨a, rfl, h⟩
  · cases h; rfl
  · exact h.elim
theorem BRep.str {i : Str} (h : BRep K F H v (.str i)) : v = .str i := by
  rcases h with h | ⟨a, rfl, h⟩
  · cases h; rfl
  · exact h.elim
theorem BRep.non (h : BRep K F H v .none) : v = .non := by
  rcases h with h | ⟨a, rfl, h⟩
  · cases h; rfl
  · exact h.elim
end

/-! ### dicts -/
section
variable {K : KW} {F F' F2 H H' H2 : Hp} {a : Addr} {o : HO} {v : V} {d : D}
theorem BRep.key (h : BRep K F H v d) {k : Key} (e : keyV d = some k) : v = kV k := by
  have := keyV_some e
  subst this
  cases k with
  | inl i => exact BRep.int h
  | inr x => exact BRep.str h
theorem BRep.dct (s : Same F H) {kvs : List (D × D)} (h : BRep K F H v (.dict kvs)) :
    (∃ (a : Addr) (ks : List Key) (vs : List V), v = .ref a ∧ H a = some (.dK (ks.zip vs)) ∧ kvs.map (·.1) = ks.map keyD ∧ RepA K F vs (kvs.map (·.2))) ∨ ∃ a : Addr, v = .ref a ∧ KDK K a kvs := by
  rcases h with h | ⟨a, rfl, ks, vs, e, ek, r⟩
  · cases h with
    | dmx q e r => exact .inl ⟨_, _, _, rfl, s _ _ q, e, r⟩
    | kdc q => exact .inr ⟨_, rfl, q⟩
  · exact .inl ⟨a, ks, vs, rfl, e, ek, r⟩
theorem dGet_cons (p : D × D) (r : List (D × D)) (k : Key) : dGet (p :: r) k = if keyV p.1 = some k then some p.2 else dGet r k := by
  unfold dGet
  rw [List.find?_cons]
  by_cases h : keyV p.1 = some k <;> simp [h]
theorem zip_val : ∀ {kvs : List (D × D)} {ks : List Key} {vs : List V}, kvs.map (·.1) = ks.map keyD → RepA K F vs (kvs.map (·.2)) → ∀ k : Key,
    match dGet kvs k with
    | none => valV (ks.zip vs) k = none
    | some d => ∃ v, valV (ks.zip vs) k = some v ∧ Rep K F v d
  | [], [], _, _, _, _ => by simp [dGet, valV]
  | [], _ :: _, _, e, _, _ => by cases e
  | p :: r, [], _, e, _, _ => by cases e
  | p :: r, k0 :: ks, _, e, .cons h t, k => by
    injection e with e1 e2
    have e1 : p.1 = keyD k0 := e1
    have ih := zip_val e2 t k
    rw [dGet_cons, e1, keyV_D, List.zip_cons_cons]
    by_cases q : k0 = k
    · subst q
      rw [if_pos rfl, valV_pos rfl]
      exact ⟨_, rfl, h⟩
    · rw [if_neg fun z => q (Option.some.inj z), valV_neg q]
      exact ih
theorem any_key {kvs : List (D × D)} {ks : List Key} (e : kvs.map (·.1) = ks.map keyD) {vs : List V} (hl : vs.length = ks.length) (k : Key) : (kvs.any fun p => decide (keyV p.1 = some k)) = (ks.zip vs).any fun kv => decide (kv.1 = k) := by
  induction ks generalizing kvs vs with
  | nil =>
    cases kvs with
    | nil => rfl
    | cons p r => cases e
  | cons k0 ks ih =>
    cases kvs with
    | nil => cases e
    | cons p r =>
      injection e with e1 e2
      have e1 : p.1 = keyD k0 := e1
      cases vs with
      | nil => cases hl
      | cons v vs =>
        rw [List.any_cons, List.zip_cons_cons, List.any_cons, ih e2 (by simpa using hl), e1, keyV_D]
        simp
theorem put_zip {kvs : List (D × D)} {ks : List Key} {vs : List V} (e : kvs.map (·.1) = ks.map keyD) (r : RepA K F vs (kvs.map (·.2))) (k : Key) {d : D} (h : Rep K F v d) :
    ∃ (ks' : List Key) (vs' : List V), putK (ks.zip vs) k v = ks'.zip vs' ∧ (dPut kvs k d).map (·.1) = ks'.map keyD ∧ RepA K F vs' ((dPut kvs k d).map (·.2)) := by
  have hl : vs.length = ks.length := by
    have h1 := r.length
    have h2 := congrArg List.length e
    simp only [List.length_map] at h1 h2
    omega
  unfold putK dPut
  rw [any_key e hl k]
  split <;> rename_i hsp <;> clear hsp
  · refine ⟨ks, (ks.zip vs).map fun kv => if kv.1 = k then v else kv.2, ?_, ?_, ?_⟩
    · clear e r
      induction ks generalizing vs with
      | nil => rfl
      | cons k0 ks ih =>
        cases vs with
        | nil => cases hl
        | cons v0 vs =>
          simp only [List.zip_cons_cons, List.map_cons, List.cons.injEq]
          refine ⟨?_, ih (by simpa using hl)⟩
          split <;> rename_i z
          · rfl
          · rfl
    · rw [← e, List.map_map]
      apply List.map_congr_left
      intro p _
      simp only [Function.comp]
      split <;> rfl
    · clear hl
      induction ks generalizing kvs vs with
      | nil =>
        cases kvs with
        | nil => exact .nil
        | cons p r => cases e
      | cons k0 ks ih =>
        cases kvs with
        | nil => cases e
        | cons p t =>
          injection e with e1 e2
          have e1 : p.1 = keyD k0 := e1
          cases r with
          | @cons v0 vs' _ _ h0 t0 =>
            rw [List.zip_cons_cons, List.map_cons, List.map_cons, List.map_cons, e1, keyV_D]
            have := ih e2 t0
            by_cases q : k0 = k
            · subst q
              simp only [if_true]
              exact .cons h this
            · have q2 : ¬ (some k0 = some k) := fun z => q (Option.some.inj z)
              simp only [q, q2, if_false]
              exact .cons h0 this
  · refine ⟨ks ++ [k], vs ++ [v], ?_, ?_, ?_⟩
    · rw [List.zip_append hl.symm]
      rfl
    · rw [List.map_append, List.map_append, e]
      rfl
    · rw [List.map_append]
      exact r.append (.cons h .nil)
theorem flatR.rep (h : flatR v d) : Rep K F v d := by
  cases h with
  | non => exact .non
  | bl b => exact .bl b
  | int i => exact .int i
  | str x => exact .str x
end

/-! ## operators by values -/
/-- an operator's rule serves g -/
def OpOk (X : Cx) (f : Value → Value → Sem Value) (g : D → D → Option RV) : Prop :=
  ∃ r, OpR X f r ∧ ∀ (F H : Hp) (x y : V) (d e : D) (rv : RV) (Q : VK), Same F H → BRep X.KW F H x d → BRep X.KW F H y e → g d e = some rv →
    (∀ v F' H', NewF F H F' H' → RRep X.KW H F' H' v rv → Q v H') → r x y H Q
def gI (C : Int → Int → Bool) (f : Int → Int → D) : D → D → Option RV
  | .int i, .int j => if C i j then some (.sh (f i j)) else none
  | _, _ => none
theorem newSh {K : KW} {F H : Hp} {Q : VK} {v : V} {d : D} (s : Same F H) (r : Rep K F v d)
    (q : ∀ v F' H', NewF F H F' H' → RRep K H F' H' v (.sh d) → Q v H') : Q v H := q v F H (NewF.refl s) r
theorem opI_ok {X : Cx} {f : Value → Value → Sem Value} {C : Int → Int → Prop} {g : Int → Int → Int} {Cb : Int → Int → Bool} (h : OpR X f (rI C fun i j => .int (g i j)))
    (hC : ∀ i j, Cb i j = true → C i j) : OpOk X f (gI Cb fun i j => .int (g i j)) := by
  refine ⟨_, h, fun F H x y d e rv Q s bx byy hg q => ?_⟩
  cases d <;> cases e <;> simp only [gI] at hg <;> try (cases hg; done)
  rename_i i j
  split at hg
  · rename_i c
    cases hg
    exact ⟨i, j, bx.int, byy.int, hC i j c, newSh s (.int _) q⟩
  · cases hg
theorem opI0_ok {X : Cx} {f : Value → Value → Sem Value} {g : Int → Int → V} {g' : Int → Int → D} (h : OpR X f (rI0 g))
    (hr : ∀ K F i j, Rep K F (g i j) (g' i j)) : OpOk X f (gI (fun _ _ => true) g') := by
  refine ⟨_, h, fun F H x y d e rv Q s bx byy hg q => ?_⟩
  cases d <;> cases e <;> simp only [gI] at hg <;> try (cases hg; done)
  rename_i i j
  cases hg
  exact ⟨i, j, bx.int, byy.int, newSh s (hr _ _ _ _) q⟩

/-! ### +, -, *, //, % -/
def gAdd : D → D → Option RV
  | .int i, .int j => some (.sh (.int (i + j)))
  | .str x, .str y => if x.length + y.length ≤ sizeLine then some (.sh (.str (x ++ y))) else none
  | .tuple xs, .tuple ys => if xs.length + ys.length ≤ sizeLine then some (.sh (.tuple (xs ++ ys))) else none
  | .list xs, .list ys => if xs.length + ys.length ≤ sizeLine then some (.fr (.list (xs ++ ys))) else none
  | _, _ => none
/-- a new list -/
theorem newLst {K : KW} {F H : Hp} {Q : VK} {vs : List V} {ds : List D} (s : Same F H) (r : RepA K F vs ds)
    (q : ∀ v F' H', NewF F H F' H' → RRep K H F' H' v (.fr (.list ds)) → Q v H') (p : Addr) (hp : H p = none) : Q (.ref p) (upd H p (.lst vs)) :=
  q _ F _ (NewF.own s hp) ⟨p, rfl, none_of_same s hp, hp, vs, upd_same, r⟩
/-- a new tuple -/
theorem newTup {K : KW} {F H : Hp} {Q : VK} {vs : List V} {ds : List D} (s : Same F H) (r : RepA K F vs ds)
    (q : ∀ v F' H', NewF F H F' H' → RRep K H F' H' v (.sh (.tuple ds)) → Q v H') (p : Addr) (hp : H p = none) : Q (.ref p) (upd H p (.tup vs)) := by
  have n : NewF F H (upd F p (.tup vs)) (upd H p (.tup vs)) := NewF.one s hp
  exact q _ _ _ n (.tup (SqT.of upd_same) (r.mono n.fs))
theorem RepA.nil_iff {K : KW} {F : Hp} {vs : List V} {ds : List D} (r : RepA K F vs ds) : vs = [] ↔ ds = [] := by
  cases r <;> simp
theorem add_ok {X : Cx} : OpOk X (binaryOp .Add) gAdd := by
  refine ⟨_, OpR.or (OpR.or op_add op_add_str) (OpR.or op_catA op_cat), fun F H x y d e rv Q s bx byy hg q => ?_⟩
  cases d <;> cases e <;> simp only [gAdd] at hg <;> try (cases hg; done)
  · rename_i i j
    cases hg
    exact .inl (.inl ⟨i, j, bx.int, byy.int, newSh s (.int _) q⟩)
  · rename_i i j
    split at hg
    · rename_i c
      cases hg
      exact .inl (.inr ⟨i, j, bx.str, byy.str, c, newSh s (.str _) q⟩)
    · cases hg
  · rename_i i j
    split at hg
    · rename_i c
      cases hg
      obtain ⟨a, vs, rfl, h1, r1⟩ := bx.lst s
      obtain ⟨b, ws, rfl, h2, r2⟩ := byy.lst s
      exact .inr (.inr ⟨a, b, vs, ws, rfl, rfl, h1, h2, by rw [r1.length, r2.length]; exact c, fun p hp => newLst s (r1.append r2) q p hp⟩)
    · cases hg
  · rename_i i j
    split at hg
    · rename_i c
      cases hg
      obtain ⟨a, vs, rfl, h1, r1⟩ := bx.tup s
      obtain ⟨b, ws, rfl, h2, r2⟩ := byy.tup s
      refine .inr (.inl ⟨a, b, vs, ws, rfl, rfl, h1, h2, by rw [r1.length, r2.length]; exact c, fun e => ?_, fun _ e => ?_, fun _ _ p hp => newTup s (r1.append r2) q p hp⟩)
      · have e' := r1.nil_iff.mp e
        subst e'
        rcases byy with byy | ⟨_, _, z⟩
        · exact newSh s byy q
        · exact z.elim
      · have e' := r2.nil_iff.mp e
        subst e'
        rw [List.append_nil] at q
        rcases bx with bx | ⟨_, _, z⟩
        · exact newSh s bx q
        · exact z.elim
    · cases hg
def cMul (i j : Int) : Bool := (decide (-(2 ^ 64) < i) && decide (i < 2 ^ 64)) || (decide (-(2 ^ 64) < j) && decide (j < 2 ^ 64))
theorem cMul_ok {i j : Int} (h : cMul i j = true) : CMul i j := by
  simp only [cMul, Bool.or_eq_true, Bool.and_eq_true, decide_eq_true_eq] at h
  exact h
theorem sub_ok {X : Cx} : OpOk X (binaryOp .Sub) (gI (fun _ _ => true) fun i j => .int (i - j)) := opI0_ok op_sub fun _ _ _ _ => .int _
theorem mul_ok {X : Cx} : OpOk X (binaryOp .Mult) (gI cMul fun i j => .int (i * j)) := opI_ok op_mul fun _ _ h => cMul_ok h
theorem div_ok {X : Cx} : OpOk X (binaryOp .FloorDiv) (gI (fun _ j => decide (0 < j) && decide (j < 1073741824)) fun i j => .int (i / j)) :=
  opI_ok op_fdiv fun _ _ h => by simpa [CDiv] using h
theorem mod_ok {X : Cx} : OpOk X (binaryOp .Mod) (gI (fun _ j => decide (0 < j)) fun i j => .int (i % j)) :=
  opI_ok op_mod fun _ _ h => by simpa using h
theorem pow_ok {X : Cx} : OpOk X (binaryOp .Pow) (gI (fun i j => decide (0 ≤ j) && (decide (j ≤ 1000000) && decide (i.natAbs < 2 ^ 64))) fun i j => .int (i ^ j.toNat)) :=
  opI_ok op_pow fun _ _ h => by
    simp only [Bool.and_eq_true, decide_eq_true_eq] at h
    exact h
/-! ### comparisons -/
def isScal : D → Bool
  | .none => true
  | .bool _ => true
  | .int _ => true
  | .str _ => true
  | _ => false
theorem txt_eqv (x y : Str) : (decide (V.str x = V.str y)) = PyData.eqv (.str x) (.str y) := by
  show _ = (x == y)
  rw [Bool.eq_iff_iff]
  simp
def gEq (d e : D) : Option RV :=
  if (SeqAt.shaped d && SeqAt.shaped e) || (isTxt d && isTxt e) then some (.sh (.bool (PyData.eqv d e))) else none
theorem isTxt_of {d : D} (h : isTxt d = true) : ∃ x, d = .str x := by cases d <;> first | exact ⟨_, rfl⟩ | cases h
def gNe (d e : D) : Option RV :=
  if (SeqAt.shaped d && SeqAt.shaped e) || (isTxt d && isTxt e) then some (.sh (.bool (!PyData.eqv d e))) else none
theorem lay_of {d : D} (h : SeqAt.shaped d = true) : d.canLay0 = true := SeqAt.canLay_of_shaped h
theorem eq_ok {X : Cx} (hu : X.A.units + 64 < cLine) : OpOk X (compareOp .Eq) gEq := by
  refine ⟨_, (op_eqD hu).or op_eq, fun F H x y d e rv Q s bx byy hg q => ?_⟩
  unfold gEq at hg
  split at hg
  · rename_i c
    cases hg
    rw [Bool.or_eq_true] at c
    rcases c with c | c
    rotate_left
    · rw [Bool.and_eq_true] at c
      obtain ⟨x1, rfl⟩ := isTxt_of c.1
      obtain ⟨x2, rfl⟩ := isTxt_of c.2
      refine .inr ?_
      rw [bx.str, byy.str]
      refine ⟨rfl, ?_⟩
      have := newSh (K := X.KW) (F := F) (H := H) (Q := Q) s (.bl (PyData.eqv (.str x1) (.str x2))) q
      have e2 : (decide (V.str x1 = V.str x2)) = PyData.eqv (.str x1) (.str x2) := by
        exact txt_eqv x1 x2
      rw [e2]
      exact this
    rw [Bool.and_eq_true] at c
    exact .inl ⟨d, e, (bx.rep s).dp (lay_of c.1), (byy.rep s).dp (lay_of c.2), c.1, c.2, newSh s (.bl _) q⟩
  · cases hg
theorem ne_ok {X : Cx} (hu : X.A.units + 64 < cLine) : OpOk X (compareOp .NotEq) gNe := by
  refine ⟨_, (op_neD hu).or op_ne, fun F H x y d e rv Q s bx byy hg q => ?_⟩
  unfold gNe at hg
  split at hg
  · rename_i c
    cases hg
    rw [Bool.or_eq_true] at c
    rcases c with c | c
    rotate_left
    · rw [Bool.and_eq_true] at c
      obtain ⟨x1, rfl⟩ := isTxt_of c.1
      obtain ⟨x2, rfl⟩ := isTxt_of c.2
      refine .inr ?_
      rw [bx.str, byy.str]
      refine ⟨rfl, ?_⟩
      have := newSh (K := X.KW) (F := F) (H := H) (Q := Q) s (.bl !(PyData.eqv (.str x1) (.str x2))) q
      have e2 : (decide (V.str x1 = V.str x2)) = PyData.eqv (.str x1) (.str x2) := by
        exact txt_eqv x1 x2
      rw [e2]
      exact this
    rw [Bool.and_eq_true] at c
    exact .inl ⟨d, e, (bx.rep s).dp (lay_of c.1), (byy.rep s).dp (lay_of c.2), c.1, c.2, newSh s (.bl _) q⟩
  · cases hg
def isNonD : D → Bool
  | .none => true
  | _ => false
def gLt (d e : D) : Option RV := match d, e with
  | .int i, .int j => some (.sh (.bool (decide (i < j))))
  | _, _ => if PySem.W.alike d e && (!isNonD d) && (SeqAt.shaped d && SeqAt.shaped e) then some (.sh (.bool (PySem.W.dataLt d e))) else none
def rLtD (K : KW) : R2 := fun x y H Q => ∃ d e, Dp K H x d ∧ Dp K H y e ∧ PySem.W.alike d e = true ∧ d ≠ .none ∧ SeqAt.shaped d = true ∧ SeqAt.shaped e = true ∧ Q (.bl (PySem.W.dataLt d e)) H
theorem op_ltD {X : Cx} (hu : X.A.units + 64 < cLine) : OpR X (compareOp .Lt) (rLtD X.KW) := by
  intro pins s σ H x y v u Q I rx ry h
  obtain ⟨d, e, hd, he, ha, hn, sd, se, q⟩ := h
  obtain ⟨as, r1⟩ := Dp.reads I d x v hd rx
  obtain ⟨bs, r2⟩ := Dp.reads I e y u he ry
  exact PySem.W.rcLt_alike d e X.A s v u as bs r1 r2 ha hn (SeqAt.room_of_shaped sd hu) _ _ _ _ ⟨.bl _, H, I, rfl, q⟩
theorem lt_ok {X : Cx} (hu : X.A.units + 64 < cLine) : OpOk X (compareOp .Lt) gLt := by
  refine ⟨_, op_lt.or (op_ltD hu), fun F H x y d e rv Q s bx byy hg q => ?_⟩
  have gen : (if PySem.W.alike d e && (!isNonD d) && (SeqAt.shaped d && SeqAt.shaped e) then some (RV.sh (.bool (PySem.W.dataLt d e))) else none) = some rv → rLtD X.KW x y H Q := fun hg => by
    by_cases c : (PySem.W.alike d e && (!isNonD d) && (SeqAt.shaped d && SeqAt.shaped e)) = true
    · rw [if_pos c] at hg
      have := Option.some.inj hg
      subst this
      simp only [Bool.and_eq_true, Bool.not_eq_true'] at c
      exact ⟨d, e, (bx.rep s).dp (lay_of c.2.1), (byy.rep s).dp (lay_of c.2.2), c.1.1, (fun z => by subst z; cases c.1.2), c.2.1, c.2.2, newSh s (.bl _) q⟩
    · rw [if_neg c] at hg
      cases hg
  unfold gLt at hg
  split at hg
  · cases hg
    exact .inl ⟨_, _, bx.int, byy.int, newSh s (.bl _) q⟩
  · exact .inr (gen hg)
theorem le_ok {X : Cx} : OpOk X (compareOp .LtE) (gI (fun _ _ => true) fun i j => .bool (decide (i ≤ j))) := opI0_ok op_le fun _ _ _ _ => .bl _
theorem gt_ok {X : Cx} : OpOk X (compareOp .Gt) (gI (fun _ _ => true) fun i j => .bool (decide (j < i))) := opI0_ok op_gt fun _ _ _ _ => .bl _
theorem ge_ok {X : Cx} : OpOk X (compareOp .GtE) (gI (fun _ _ => true) fun i j => .bool (decide (j ≤ i))) := opI0_ok op_ge fun _ _ _ _ => .bl _
theorem non_iff {K : KW} {F H : Hp} {v : V} {d : D} (b : BRep K F H v d) : decide (v = V.non) = isNonD d := by
  rcases b with b | ⟨a, rfl, b⟩
  · cases b <;> simp [isNonD]
  · cases d <;> first | exact b.elim | simp [isNonD]
def gIs (d e : D) : Option RV := if isNonD e then some (.sh (.bool (isNonD d))) else match d, e with
  | .bool a, .bool b => some (.sh (.bool (decide (a = b))))
  | _, _ => none
def gIsNot (d e : D) : Option RV := if isNonD e then some (.sh (.bool (!isNonD d))) else match d, e with
  | .bool a, .bool b => some (.sh (.bool (!decide (a = b))))
  | _, _ => none
theorem isNonD_eq {d : D} (h : isNonD d = true) : d = .none := by cases d <;> first | rfl | cases h
theorem is_ok {X : Cx} : OpOk X (compareOp .Is) gIs := by
  refine ⟨_, op_isN.or op_isBl, fun F H x y d e rv Q s bx byy hg q => ?_⟩
  unfold gIs at hg
  split at hg
  · rename_i c
    cases hg
    have := isNonD_eq c
    subst this
    refine .inl ⟨byy.non, ?_⟩
    rw [non_iff bx]
    exact newSh s (.bl _) q
  · split at hg
    · cases hg
      exact .inr ⟨_, _, bx.bl, byy.bl, newSh s (.bl _) q⟩
    · cases hg
theorem isNot_ok {X : Cx} : OpOk X (compareOp .IsNot) gIsNot := by
  refine ⟨_, op_notN.or op_notBl, fun F H x y d e rv Q s bx byy hg q => ?_⟩
  unfold gIsNot at hg
  split at hg
  · rename_i c
    cases hg
    have := isNonD_eq c
    subst this
    refine .inl ⟨byy.non, ?_⟩
    rw [non_iff bx]
    exact newSh s (.bl _) q
  · split at hg
    · cases hg
      exact .inr ⟨_, _, bx.bl, byy.bl, newSh s (.bl _) q⟩
    · cases hg
/-! ### in -/
def inD (d : D) : D → Option Bool
  | .list ds => if (SeqAt.shaped d && SeqAt.shaped (.list ds)) || (isTxt d && ds.all isTxt) then some (ds.any fun z => PyData.eqv z d) else none
  | .tuple ds => if (SeqAt.shaped d && SeqAt.shaped (.tuple ds)) || (isTxt d && ds.all isTxt) then some (ds.any fun z => PyData.eqv z d) else none
  | .dict kvs => match keyV d with
    | some k => if dOk kvs k then some (dGet kvs k).isSome else none
    | none => none
  | _ => none
def gIn (d e : D) : Option RV := (inD d e).map fun b => .sh (.bool b)
def gNotIn (d e : D) : Option RV := (inD d e).map fun b => .sh (.bool (!b))
theorem depth_tl (ds : List D) : SeqAt.shaped (.tuple ds) = SeqAt.shaped (.list ds) := by
  simp [SeqAt.shaped, PyData.canLay0, PyData.depth]
def rInT (K : KW) (neg : Bool) : R2 := fun x y H Q => ∃ d ds, Dp K H x d ∧ Dp K H y (.tuple ds) ∧ SeqAt.shaped d = true ∧ SeqAt.shaped (.tuple ds) = true ∧ Q (.bl (if neg then !(ds.any fun z => PyData.eqv z d) else ds.any fun z => PyData.eqv z d)) H
theorem room_in2 {A : Around} {ds : List D} {d : D} (h : SeqAt.shaped d = true) (hu : A.units + 65 < cLine) : A.units + 1 + min (PyData.depthAll ds) d.depth < cLine := by
  have h1 := SeqAt.depth_of_shaped h
  have h2 : min (PyData.depthAll ds) d.depth ≤ d.depth := Nat.min_le_right _ _
  omega
theorem op_inT {X : Cx} (hu : X.A.units + 65 < cLine) : OpR X (compareOp .In) (rInT X.KW false) := by
  intro pins s σ H x y v u Q I rx ry h
  obtain ⟨d, ds, hd, he, sd, se, q⟩ := h
  obtain ⟨as, r1⟩ := Dp.reads I d x v hd rx
  obtain ⟨bs, r2⟩ := Dp.reads I (.tuple ds) y u he ry
  exact SeqAt.in_tuple_reads r2 r1 (SeqAt.canLay_of_shaped se) (SeqAt.canLay_of_shaped sd) (room_in2 sd hu) ⟨.bl _, H, I, rfl, q⟩
theorem op_notInT {X : Cx} (hu : X.A.units + 65 < cLine) : OpR X (compareOp .NotIn) (rInT X.KW true) := by
  intro pins s σ H x y v u Q I rx ry h
  obtain ⟨d, ds, hd, he, sd, se, q⟩ := h
  obtain ⟨as, r1⟩ := Dp.reads I d x v hd rx
  obtain ⟨bs, r2⟩ := Dp.reads I (.tuple ds) y u he ry
  exact SeqAt.notIn_tuple_reads r2 r1 (SeqAt.canLay_of_shaped se) (SeqAt.canLay_of_shaped sd) (room_in2 sd hu) ⟨.bl _, H, I, rfl, q⟩
/-- in a dict -/
def rInD (X : Cx) (neg : Bool) : R2 := fun x y H Q => (∃ a o, y = .ref a ∧ DGet H a x o ∧ Q (.bl (if neg then !o.isSome else o.isSome)) H) ∨
  ∃ (d : Addr) (es : Array DictEntry) (n : Nat), KDict X.K X.w d es n ∧ ∃ (z : Str) (r : Option Value), x = .str z ∧ y = .ref d ∧ PySem.W.nsIn X.K d z = some r ∧ Q (.bl (if neg then !r.isSome else r.isSome)) H
theorem op_inDc {X : Cx} (hu : X.A.units + 65 < cLine) : OpR X (compareOp .In) (rInD X false) := by
  intro pins s σ H x y v u Q I rx ry h
  rcases h with ⟨a, o, rfl, g, q⟩ | ⟨d, es, n, D, h⟩
  · cases (show u = Value.ref a from ry)
    exact d_in (by omega) I g rx fun s' I' => ⟨.bl o.isSome, H, I', rfl, q⟩
  · exact op_in_kd D pins s σ H x y v u Q I rx ry h
theorem op_notInDc {X : Cx} (hu : X.A.units + 65 < cLine) : OpR X (compareOp .NotIn) (rInD X true) := by
  intro pins s σ H x y v u Q I rx ry h
  rcases h with ⟨a, o, rfl, g, q⟩ | ⟨d, es, n, D, h⟩
  · cases (show u = Value.ref a from ry)
    exact d_notIn (by omega) I g rx fun s' I' => ⟨.bl (!o.isSome), H, I', rfl, q⟩
  · exact op_notIn_kd D pins s σ H x y v u Q I rx ry h
theorem inD_dc {X : Cx} {F H : Hp} {x y : V} {d : D} {kvs : List (D × D)} {b : Bool} {Q : VK} {neg : Bool} (s : Same F H) (bx : BRep X.KW F H x d) (by_ : BRep X.KW F H y (.dict kvs)) (h : inD d (.dict kvs) = some b) (q : Q (.bl (if neg then !b else b)) H) : rInD X neg x y H Q := by
  cases e : keyV d with
  | none => simp [inD, e] at h
  | some k =>
    simp only [inD, e] at h
    split at h
    · rename_i ok
      cases h
      have hx := bx.key e
      subst hx
      rcases by_.dct s with ⟨a, ks, vs, rfl, e1, e2, r⟩ | ⟨a, rfl, hk⟩
      · refine .inl ⟨a, valV (ks.zip vs) k, rfl, DGet.k e1, ?_⟩
        have z := zip_val e2 r k
        have : (valV (ks.zip vs) k).isSome = (dGet kvs k).isSome := by
          cases eg : dGet kvs k with
          | none => rw [eg] at z; dsimp only at z; rw [z]; rfl
          | some d => rw [eg] at z; obtain ⟨v, z, _⟩ := z; rw [z]; rfl
        rw [this]
        exact q
      · obtain ⟨h1, ⟨es, n, D⟩, h2⟩ := hk
        cases k with
        | inl i =>
          rw [dOk, h1] at ok
          cases ok
        | inr z =>
          obtain ⟨r, e1, e2⟩ := h2 z
          refine .inr ⟨a, es, n, D, z, r, rfl, rfl, e1, ?_⟩
          have : r.isSome = (dGet kvs (.inr z)).isSome := by
            cases eg : dGet kvs (.inr z) with
            | none => rw [eg] at e2; dsimp only at e2; rw [e2]; rfl
            | some d => rw [eg] at e2; obtain ⟨u, v, e3, _⟩ := e2; rw [e3]; rfl
          rw [this]
          exact q
    · cases h
theorem txt_vals {K : KW} {F : Hp} : ∀ {vs : List V} {ds : List D}, RepA K F vs ds → ds.all isTxt = true → ∀ x : Str, vs.all flatV = true ∧ (vs.any fun y => eqV y (.str x)) = ds.any fun z => PyData.eqv z (.str x)
  | _, _, .nil, _, _ => ⟨rfl, rfl⟩
  | _, _, .cons h r, c, x => by
    rw [List.all_cons, Bool.and_eq_true] at c
    obtain ⟨y, rfl⟩ := isTxt_of c.1
    cases h
    obtain ⟨q1, q2⟩ := txt_vals r c.2 x
    rw [List.all_cons, List.any_cons, List.any_cons, q1, q2]
    exact ⟨rfl, rfl⟩
theorem inTx {X : Cx} {F H : Hp} {x y : V} {d e : D} {ds : List D} {neg : Bool} {Q : VK} (s : Same F H) (bx : BRep X.KW F H x d) (byy : BRep X.KW F H y e) (he : e = .list ds ∨ e = .tuple ds) (c : (isTxt d && ds.all isTxt) = true)
    (q : Q (.bl (if neg then !(ds.any fun z => PyData.eqv z d) else ds.any fun z => PyData.eqv z d)) H) : rIn X.K neg x y H Q := by
  rw [Bool.and_eq_true] at c
  obtain ⟨x1, rfl⟩ := isTxt_of c.1
  have hx := bx.str
  subst hx
  rcases he with rfl | rfl
  · obtain ⟨a, vs, rfl, hh, r⟩ := byy.lst s
    obtain ⟨q1, q2⟩ := txt_vals r c.2 x1
    exact ⟨a, vs, rfl, .inl (SqL.of hh), rfl, q1, by unfold inV; rw [q2]; exact q⟩
  · obtain ⟨a, vs, rfl, hh, r⟩ := byy.tup s
    obtain ⟨q1, q2⟩ := txt_vals r c.2 x1
    exact ⟨a, vs, rfl, .inr hh, rfl, q1, by unfold inV; rw [q2]; exact q⟩
theorem in_ok {X : Cx} (hu : X.A.units + 65 < cLine) : OpOk X (compareOp .In) gIn := by
  refine ⟨_, ((op_inD hu).or ((op_inT hu).or (op_inDc hu))).or op_in_seq, fun F H x y d e rv Q s bx byy hg q => ?_⟩
  obtain ⟨b, h1, rfl⟩ := Option.map_eq_some_iff.mp hg
  by_cases hdc : ∃ kvs, e = .dict kvs
  · obtain ⟨kvs, rfl⟩ := hdc
    exact .inl (.inr (.inr (inD_dc (neg := false) s bx byy h1 (newSh s (.bl _) q))))
  cases e <;> first | exact absurd ⟨_, rfl⟩ hdc | (simp only [inD] at h1) <;> try (cases h1; done)
  · split at h1
    · rename_i c
      cases h1
      rw [Bool.or_eq_true] at c
      rcases c with c | c
      rotate_left
      · exact .inr (inTx (neg := false) s bx byy (.inl rfl) c (newSh s (.bl _) q))
      rw [Bool.and_eq_true] at c
      exact .inl (.inl ⟨d, _, (bx.rep s).dp (lay_of c.1), (byy.rep s).dp (lay_of c.2), c.1, c.2, newSh s (.bl _) q⟩)
    · cases h1
  · split at h1
    · rename_i c
      cases h1
      rw [Bool.or_eq_true] at c
      rcases c with c | c
      rotate_left
      · exact .inr (inTx (neg := false) s bx byy (.inr rfl) c (newSh s (.bl _) q))
      rw [Bool.and_eq_true] at c
      exact .inl (.inr (.inl ⟨d, _, (bx.rep s).dp (lay_of c.1), (byy.rep s).dp (lay_of c.2), c.1, c.2, newSh s (.bl _) q⟩))
    · cases h1
theorem notIn_ok {X : Cx} (hu : X.A.units + 65 < cLine) : OpOk X (compareOp .NotIn) gNotIn := by
  refine ⟨_, ((op_notInD hu).or ((op_notInT hu).or (op_notInDc hu))).or op_notIn_seq, fun F H x y d e rv Q s bx byy hg q => ?_⟩
  obtain ⟨b, h1, rfl⟩ := Option.map_eq_some_iff.mp hg
  by_cases hdc : ∃ kvs, e = .dict kvs
  · obtain ⟨kvs, rfl⟩ := hdc
    exact .inl (.inr (.inr (inD_dc (neg := true) s bx byy h1 (newSh s (.bl _) q))))
  cases e <;> first | exact absurd ⟨_, rfl⟩ hdc | (simp only [inD] at h1) <;> try (cases h1; done)
  · split at h1
    · rename_i c
      cases h1
      rw [Bool.or_eq_true] at c
      rcases c with c | c
      rotate_left
      · exact .inr (inTx (neg := true) s bx byy (.inl rfl) c (newSh s (.bl _) q))
      rw [Bool.and_eq_true] at c
      exact .inl (.inl ⟨d, _, (bx.rep s).dp (lay_of c.1), (byy.rep s).dp (lay_of c.2), c.1, c.2, newSh s (.bl _) q⟩)
    · cases h1
  · split at h1
    · rename_i c
      cases h1
      rw [Bool.or_eq_true] at c
      rcases c with c | c
      rotate_left
      · exact .inr (inTx (neg := true) s bx byy (.inr rfl) c (newSh s (.bl _) q))
      rw [Bool.and_eq_true] at c
      exact .inl (.inr (.inl ⟨d, _, (bx.rep s).dp (lay_of c.1), (byy.rep s).dp (lay_of c.2), c.1, c.2, newSh s (.bl _) q⟩))
    · cases h1
/-! ### truth, indexes -/
def truD : D → Option Bool
  | .none => some false
  | .bool b => some b
  | .int i => some (i != 0)
  | .str y => if y.length ≤ sizeLine then some ((y.length : Int) != 0) else none
  | .list ds => some (!ds.isEmpty)
  | .tuple ds => some (!ds.isEmpty)
  | .dict _ => none
theorem RepA.isEmpty {K : KW} {F : Hp} {vs : List V} {ds : List D} (r : RepA K F vs ds) : vs.isEmpty = ds.isEmpty := by
  cases r <;> rfl
theorem tru_of {K : KW} {F H : Hp} {v : V} {d : D} {b : Bool} (s : Same F H) (r : BRep K F H v d) (h : truD d = some b) : TruV K v H b := by
  cases d with
  | none =>
    have e := r.non
    subst e
    exact (Option.some.inj h).symm
  | bool c =>
    have e := r.bl
    subst e
    exact (Option.some.inj h).symm
  | int c =>
    have e := r.int
    subst e
    exact (Option.some.inj h).symm
  | str c =>
    have e := r.str
    subst e
    simp only [truD] at h
    split at h
    · rename_i z
      exact ⟨z, (Option.some.inj h).symm⟩
    · cases h
  | list ds =>
    obtain ⟨a, vs, rfl, h1, r1⟩ := r.lst s
    refine .inl ⟨vs, SqL.of h1, ?_⟩
    rw [r1.isEmpty]
    exact (Option.some.inj h).symm
  | tuple ds =>
    obtain ⟨a, vs, rfl, h1, r1⟩ := r.tup s
    refine .inr (.inl ⟨vs, h1, ?_⟩)
    rw [r1.isEmpty]
    exact (Option.some.inj h).symm
  | dict ds => cases h
def gIx : D → D → Option RV
  | .list ds, .int i => (atI ds i).map .sh
  | .tuple ds, .int i => (atI ds i).map .sh
  | .str z, .int i => if z.length ≤ sizeLine then (atI z.cps.toList i).map fun c => .sh (.str ⟨#[c]⟩) else none
  | .dict kvs, d => match keyV d with
    | some k => if dOk kvs k then (dGet kvs k).map .sh else none
    | none => none
  | _, _ => none
/-- d[k], a dict -/
def rIxDc (X : Cx) : R2 := fun x y H Q => (∃ a v, x = .ref a ∧ DGet H a y (some v) ∧ Q v H) ∨ rIxD X.K X.w x y H Q
theorem ix_dc {X : Cx} (hu : X.A.units + 65 < cLine) : IxR X (rIxDc X) := by
  intro value slice pins s σ H x y v u Q I rx ry h hs
  rcases h with ⟨a, z, rfl, g, q⟩ | h
  · cases (show v = Value.ref a from rx)
    exact tail_any (dict_typeIs I g) slot_dict_getitem.lookup (d_getItem (by omega) I g ry fun w' s' I' r' => ⟨z, H, I', r', q⟩) hs
  · exact ix_kdict value slice pins s σ H x y v u Q I rx ry h hs
theorem RepA.atI {K : KW} {F : Hp} {vs : List V} {ds : List D} {i : Int} {d : D} (r : RepA K F vs ds) (h : atI ds i = some d) : ∃ v, atI vs i = some v ∧ Rep K F v d := by
  unfold L2.atI at h ⊢
  rw [r.length]
  cases e : ixN ds.length i with
  | none => rw [e] at h; cases h
  | some j =>
    rw [e] at h
    exact r.get h
def IxOk (X : Cx) (g : D → D → Option RV) : Prop :=
  ∃ r, IxR X r ∧ ∀ (F H : Hp) (x y : V) (d e : D) (rv : RV) (Q : VK), Same F H → BRep X.KW F H x d → BRep X.KW F H y e → g d e = some rv →
    (∀ v F' H', NewF F H F' H' → RRep X.KW H F' H' v rv → Q v H') → r x y H Q
theorem ix_ok {X : Cx} (hu : X.A.units + 65 < cLine) : IxOk X gIx := by
  refine ⟨_, ix_seq.or (ix_dc hu), fun F H x y d e rv Q s bx byy hg q => ?_⟩
  by_cases hdc : ∃ kvs, d = .dict kvs
  · obtain ⟨kvs, rfl⟩ := hdc
    refine .inr ?_
    cases ek : keyV e with
    | none => simp [gIx, ek] at hg
    | some k =>
      simp only [gIx, ek] at hg
      split at hg
      · rename_i ok
        obtain ⟨dd, eg, rfl⟩ := Option.map_eq_some_iff.mp hg
        have hx := byy.key ek
        subst hx
        rcases bx.dct s with ⟨a, ks, vs, rfl, e1, e2, r⟩ | ⟨a, rfl, hk⟩
        · have z := zip_val e2 r k
          rw [eg] at z
          obtain ⟨v, z1, z2⟩ := z
          exact .inl ⟨a, v, rfl, by rw [← z1]; exact DGet.k e1, newSh s z2 q⟩
        · obtain ⟨h1, ⟨es, n, D⟩, h2⟩ := hk
          cases k with
          | inl i =>
            rw [dOk, h1] at ok
            cases ok
          | inr z =>
            obtain ⟨r, e1, e2⟩ := h2 z
            rw [eg] at e2
            obtain ⟨u, v, e3, e4, e5⟩ := e2
            exact .inr ⟨a, z, v, rfl, rfl, ⟨es, n, u, D.at_, D.lit, by rw [e1, e3], e4⟩, newSh s e5.rep q⟩
      · cases hg
  refine .inl ?_
  cases d <;> first | exact absurd ⟨_, rfl⟩ hdc | (cases e <;> simp only [gIx] at hg <;> try (cases hg; done))
  · rename_i z i
    split at hg
    · rename_i c
      obtain ⟨ch, h1, h2⟩ := Option.map_eq_some_iff.mp hg
      subst h2
      exact .inr (.inr ⟨z, i, ch, bx.str, byy.int, c, h1, newSh s (.str _) q⟩)
    · cases hg
  · rename_i ds i
    obtain ⟨dd, h1, h2⟩ := Option.map_eq_some_iff.mp hg
    subst h2
    obtain ⟨a, vs, rfl, hh, r1⟩ := bx.lst s
    obtain ⟨v, h3, h4⟩ := r1.atI h1
    exact .inl ⟨a, vs, i, v, rfl, byy.int, SqL.of hh, h3, newSh s h4 q⟩
  · rename_i ds i
    obtain ⟨dd, h1, h2⟩ := Option.map_eq_some_iff.mp hg
    subst h2
    obtain ⟨a, vs, rfl, hh, r1⟩ := bx.tup s
    obtain ⟨v, h3, h4⟩ := r1.atI h1
    exact .inr (.inl ⟨a, vs, i, v, rfl, byy.int, hh, h3, newSh s h4 q⟩)
end WV
namespace WV
open PySem PySem.Spec PyProof.Rows L2
/-! ## tuple * int, of any int -/
theorem mulT_same (a : Addr) (xs : Array Value) (m : Nat) (df : Option Addr) (zs : Array (Option Value)) (k : Int) (u : Tok) (c0 : (decide (k < -(2 ^ 63)) || decide (k ≥ 2 ^ 63)) = false) (c1 : (xs.isEmpty || k == 1) = true) :
    Meets (Builtin.«tuple.__mul__» ⟨[.ref a, .int k u], []⟩) (fun _ R s => s.heap.get? a = some { cls := .type "tuple", dict := df, data := .seq xs m, slots := zs } ∧ R (.ok (.ret (.ref a))) s) :=
  .of_wp fun prog w A R s h => by
    obtain ⟨hp, g, d, tk, os⟩ := s
    obtain ⟨hl, h⟩ := h
    have f1 := AutoSeq1.idx_int
    wp_walk using AutoSeq1.wpAny_loadPart' hl
    repeat (first
      | (refine wpAny_ite_false (decide_eq_false (by rw [c0]; exact Bool.false_ne_true)) ?_; wp_walk using AutoSeq1.wpAny_loadPart' hl)
      | (refine wpAny_ite_true (decide_eq_true (by rw [c1])) ?_; wp_walk using AutoSeq1.wpAny_loadPart' hl))
    exact ⟨_, rfl, h⟩
theorem mulT_none (a : Addr) (xs : Array Value) (m : Nat) (df : Option Addr) (zs : Array (Option Value)) (k : Int) (u : Tok) (c0 : (decide (k < -(2 ^ 63)) || decide (k ≥ 2 ^ 63)) = false) (c1 : (xs.isEmpty || k == 1) = false) (c2 : (decide (k ≤ 0) || xs.isEmpty) = true) :
    Meets (Builtin.«tuple.__mul__» ⟨[.ref a, .int k u], []⟩) (fun _ R s => s.heap.get? a = some { cls := .type "tuple", dict := df, data := .seq xs m, slots := zs } ∧ R (.ok (.ret (.ref s.heap.objs.size))) { s with heap := s.heap.push { cls := .type "tuple", data := .seq #[] } }) :=
  .of_wp fun prog w A R s h => by
    obtain ⟨hp, g, d, tk, os⟩ := s
    obtain ⟨hl, h⟩ := h
    have f1 := AutoSeq1.idx_int
    wp_walk using AutoSeq1.wpAny_loadPart' hl
    repeat (first
      | (refine wpAny_ite_false (decide_eq_false (by rw [c0]; exact Bool.false_ne_true)) ?_; wp_walk using AutoSeq1.wpAny_loadPart' hl)
      | (refine wpAny_ite_false (decide_eq_false (by rw [c1]; exact Bool.false_ne_true)) ?_; wp_walk using AutoSeq1.wpAny_loadPart' hl)
      | (refine wpAny_ite_true (decide_eq_true (by rw [c2])) ?_; wp_walk using AutoSeq1.wpAny_loadPart' hl)
      | (refine wpAny_ite_false (decide_eq_false (Nat.not_lt.mpr (by decide))) ?_; wp_walk using AutoSeq1.wpAny_loadPart' hl))
    exact ⟨_, rfl, h⟩
def rMulT (K : KW) : R2 := fun x y H Q => ∃ b k ys, x = .ref b ∧ y = .int k ∧ SqT K H b ys ∧ -1000 ≤ k ∧ k ≤ 1000 ∧ ys.length ≤ 1000 ∧ ((ys = [] ∨ k = 1) → Q (.ref b) H) ∧ (ys ≠ [] → k ≤ 0 → ∀ p, H p = none → Q (.ref p) (upd H p (.tup []))) ∧
  (ys ≠ [] → 2 ≤ k → ∀ p, H p = none → Q (.ref p) (upd H p (.tup (List.replicate k.toNat ys).flatten)))
theorem op_mulT {X : Cx} : OpR X (binaryOp .Mult) (rMulT X.KW) := by
  intro pins s σ H x y v u Q I rx ry h
  obtain ⟨b, k, ys, rfl, rfl, hT, h1, h2, hz, q1, q2, q3⟩ := h
  by_cases hb : ys ≠ [] ∧ 2 ≤ k
  · exact op_repT pins s σ H _ _ v u Q I rx ry ⟨b, k, ys, rfl, rfl, hT, hb.1, hb.2, h2, hz, q3 hb.1 hb.2⟩
  cases rx
  obtain ⟨t, rfl⟩ := ry
  obtain ⟨its, r, ⟨⟨cls, df, dat, zs⟩, ho, hc, m, hd⟩, hs⟩ := I.tuple hT
  simp only at hc hd
  subst hc hd
  have hlen : its.length = ys.length := r.length.symm
  have c0 : (decide (k < -(2 ^ 63)) || decide (k ≥ 2 ^ 63)) = false := by
    rw [decide_eq_false (by omega), decide_eq_false (by omega)] <;> rfl
  have road : ∀ {P : Model → Around → (Except Value Fin → Shared → Prop) → Shared → Prop}, True → True := fun _ => trivial
  by_cases he : ys = [] ∨ k = 1
  · have c1 : (its.toArray.isEmpty || k == 1) = true := by
      rcases he with e | e
      · have : its = [] := List.eq_nil_of_length_eq_zero (by rw [hlen, e]; rfl)
        rw [this]
        rfl
      · rw [e]
        simp
    refine wpAny_binaryOp_repeat_ref (T := "tuple") (U := "int") (by decide) ⟨_, ho, rfl⟩ (fun z => typeIs_int z k t) noFill_tuple_mul F.fills_int_mul F.slot_int_rmul repeat_tuple F.slot_int_index.lookup
      (call_meets F.slot_int_rmul (typeIs_int s k t) F.entry_int_rmul (F.args_int_rmul_2 _ _) (int_rmul_tuple k t b its.toArray m df zs)
        ⟨ho, rfl, ⟨_, ho, rfl⟩, call_meets F.slot_tuple_mul ⟨_, ho, rfl⟩ F.entry_tuple_mul (F.args_tuple_mul_2 _ _) (mulT_same b its.toArray m df zs k t c0 c1) ⟨ho, ?_⟩⟩)
    exact ⟨.ref b, H, I, rfl, q1 he⟩
  · have hk : k ≤ 0 := by
      rcases Int.lt_or_le 0 k with z | z
      · exact absurd ⟨fun e => he (.inl e), by
          have : k ≠ 1 := fun e => he (.inr e)
          omega⟩ hb
      · exact z
    have hne : ys ≠ [] := fun e => he (.inl e)
    have hi : its.toArray.isEmpty = false := by
      cases its with
      | nil => exact absurd (List.eq_nil_of_length_eq_zero hlen.symm) hne
      | cons _ _ => rfl
    have c1 : (its.toArray.isEmpty || k == 1) = false := by
      rw [hi, Bool.false_or]
      exact beq_eq_false_iff_ne.mpr (by omega)
    have c2 : (decide (k ≤ 0) || its.toArray.isEmpty) = true := by
      rw [decide_eq_true hk]
      rfl
    refine wpAny_binaryOp_repeat_ref (T := "tuple") (U := "int") (by decide) ⟨_, ho, rfl⟩ (fun z => typeIs_int z k t) noFill_tuple_mul F.fills_int_mul F.slot_int_rmul repeat_tuple F.slot_int_index.lookup
      (call_meets F.slot_int_rmul (typeIs_int s k t) F.entry_int_rmul (F.args_int_rmul_2 _ _) (int_rmul_tuple k t b its.toArray m df zs)
        ⟨ho, rfl, ⟨_, ho, rfl⟩, call_meets F.slot_tuple_mul ⟨_, ho, rfl⟩ F.entry_tuple_mul (F.args_tuple_mul_2 _ _) (mulT_none b its.toArray m df zs k t c0 c1 c2) ⟨ho, ?_⟩⟩)
    exact ⟨.ref s.heap.objs.size, _, I.laid (t' := s.toks) (o := .tup []) (fun z ob g => Heap.get?_push_of_some _ g) (Nat.le_refl _) ⟨Nat.zero_le _, _, .nil, IsTup.new _ _⟩, rfl, q2 hne hk _ (I.hok.fresh (Nat.le_refl _))⟩
def gMul (d e : D) : Option RV := match d, e with
  | .int i, .int j => if cMul i j then some (.sh (.int (i * j))) else none
  | .tuple ds, .int k => if decide (-1000 ≤ k) && (decide (k ≤ 1000) && decide (ds.length ≤ 1000)) then some (.sh (.tuple (List.replicate k.toNat ds).flatten)) else none
  | _, _ => none
theorem RepA.flat {K : KW} {F : Hp} {vs : List V} {ds : List D} (r : RepA K F vs ds) : ∀ n : Nat, RepA K F (List.replicate n vs).flatten (List.replicate n ds).flatten
  | 0 => .nil
  | n + 1 => by
    rw [List.replicate_succ, List.replicate_succ, List.flatten_cons, List.flatten_cons]
    exact r.append (RepA.flat r n)
theorem mulG_ok {X : Cx} : OpOk X (binaryOp .Mult) gMul := by
  refine ⟨_, op_mul.or op_mulT, fun F H x y d e rv Q s bx byy hg q => ?_⟩
  cases d <;> cases e <;> simp only [gMul] at hg <;> try (cases hg; done)
  · rename_i i j
    split at hg
    · rename_i c
      cases hg
      exact .inl ⟨i, j, bx.int, byy.int, cMul_ok c, newSh s (.int _) q⟩
    · cases hg
  · rename_i ds k
    split at hg
    · rename_i c
      cases hg
      simp only [Bool.and_eq_true, decide_eq_true_eq] at c
      have bx' := bx
      obtain ⟨b, vs, rfl, h1, r1⟩ := bx.tup s
      have e1 : k = 1 → (List.replicate k.toNat ds).flatten = ds := fun e => by subst e; simp
      have e2 : ds = [] → (List.replicate k.toNat ds).flatten = ds := fun e => by subst e; simp
      refine .inr ⟨b, k, vs, rfl, byy.int, h1, c.1, c.2.1, by rw [r1.length]; exact c.2.2, fun z => ?_, fun _ z p hp => ?_, fun _ _ p hp => newTup s (r1.flat k.toNat) q p hp⟩
      · have e3 : (List.replicate k.toNat ds).flatten = ds := z.elim (fun z => e2 (r1.nil_iff.mp z)) e1
        rw [e3] at q
        rcases bx' with bx' | ⟨_, _, z⟩
        · exact newSh s bx' q
        · exact z.elim
      · have e4 : k.toNat = 0 := by omega
        rw [e4] at q
        exact newTup s .nil q p hp
    · cases hg
end WV
namespace WV
open PySem PySem.Spec PyProof.Rows L2

/-! ## the small language -/
inductive BOp | add | sub | mul | div | mod | pow
  deriving DecidableEq
inductive COp | eq | ne | lt | le | gt | ge | is | isn | inn | nin
  deriving DecidableEq
inductive Bi | len | all | tup | lst | any | sum | int
  deriving DecidableEq
inductive Ty | int | bool | str | tuple | list | none
  deriving DecidableEq
inductive Tg
  | nm (i : Nat)
  | tp (is : List Nat)
mutual
inductive Ex
  | v (i : Nat)
  | lit (d : D)
  | gl (x : Str) (d : D)
  | tup (es : Exs)
  | lst (es : Exs)
  | bin (o : BOp) (a b : Ex)
  | cmp (o : COp) (a b : Ex)
  | chn (o o' : COp) (a b c : Ex)
  | and (a b : Ex)
  | or (a b : Ex)
  | not (a : Ex)
  | ife (c a b : Ex)
  | neg (a : Ex)
  | ix (a b : Ex)
  | slc (a : Ex) (lo hi : Exo)
  | isi (a : Ex) (t : Ty)
  | bi (b : Bi) (a : Ex)
  | min2 (a b : Ex)
  | lens (i : Nat)
  | call (f : Str) (es : Exs)
  | callk (f : Str) (es ws : Exs) (ks : List Str) (pm : List Nat)
  | draw (i : Nat) (e : Ex)
  | lc (own : List Nat) (t : Tg) (it : Itr) (c : Exo) (e : Ex)
  | pop (i : Nat)
  | popAt (i : Nat) (e : Ex)
  | app (i : Nat) (e : Ex)
  | ext (i : Nat) (e : Ex)
  | rev (a : Ex)
  | emp
  | dsp (ks : List D) (es : Exs)
  | cuts (i k : Nat)
  | dget (i k : Nat)
  | dpop (i : Nat)
inductive Exs
  | nil
  | cons (e : Ex) (es : Exs)
inductive Exo
  | no
  | so (e : Ex)
inductive Itr
  | rg1 (a : Ex)
  | rg2 (a b : Ex)
  | seq (a : Ex)
  | enum (a : Ex)
  | zip (a b : Ex)
  | rev (a : Ex)
end
mutual
inductive Sm
  | asg (i : Nat) (e : Ex)
  | par (is : List Nat) (es : Exs)
  | unp (is : List Nat) (e : Ex)
  | sub (i : Nat) (ix e : Ex)
  | aug (i : Nat) (o : BOp) (e : Ex)
  | exp (e : Ex)
  | ret (e : Ex)
  | retN
  | iff (c : Ex) (a b : Sms)
  | forr (t : Tg) (it : Itr) (b : Sms)
  | whl (c : Ex) (b : Sms)
  | rse (c : Str)
  | tryy (b : Sms) (h : Hds)
  | brk
  | cnt
  | pas
  | dcel (j i : Nat)
  | dset (i k : Nat) (e : Ex)
inductive Sms
  | nil
  | cons (s : Sm) (r : Sms)
inductive Hds
  | nil
  | cons (c : Str) (b : Sms) (r : Hds)
end

/-! ## states -/
inductive Cell
  | sh (d : D)
  | ow (d : D)
  | deal
  | dcl
  | scr (ns : List Int)
structure Dl where
  cells : List Int
  rest : List Int
structure Sto where
  env : List (Option Cell)
  dl : Option Dl
def RV.cell : RV → Cell
  | .sh d => .sh d
  | .fr d => .ow d
def Sto.set (s : Sto) (i : Nat) (c : Cell) : Sto := { s with env := s.env.set i (some c) }
def wipeE (e : List (Option Cell)) : List Nat → List (Option Cell)
  | [] => e
  | v :: vs => (wipeE e vs).set v none
def restE (e e0 : List (Option Cell)) : List Nat → List (Option Cell)
  | [] => e
  | v :: vs => (restE e e0 vs).set v ((e0[v]?).getD none)
inductive Out (α : Type)
  | ok (a : α) (s : Sto)
  | exc (c : Str) (s : Sto)
  | stuck
def Out.bind {α β : Type} : Out α → (α → Sto → Out β) → Out β
  | .ok a s, f => f a s
  | .exc c s, _ => .exc c s
  | .stuck, _ => .stuck
inductive CRes
  | ret (rv : RV) (d : Option Dl)
  | exc (c : Str) (d : Option Dl)
  | stuck
structure Cal where
  fn : Str → List Cell → Option Dl → CRes
  tk : Dl → Int → Option (Int × Dl)
  ex : List Str

inductive Opd
  | slot (i : Nat)
  | dat (d : D)
def Opd.get (o : Opd) (s : Sto) : Option D := match o with
  | .dat d => some d
  | .slot i => match s.env[i]? with
    | some (some (.sh d)) => some d
    | some (some (.ow d)) => some d
    | some (some .dcl) => s.dl.map fun dl => .list (dl.cells.map PyData.int)
    | _ => none
def opd (e : Ex) (r : Out RV) (s : Sto) : Out Opd := match e with
  | .v i => if ((Opd.slot i).get s).isSome then .ok (.slot i) s else .stuck
  | _ => r.bind fun rv s' => .ok (.dat rv.dat) s'
def outO {α : Type} (o : Option α) (s : Sto) : Out α := match o with
  | some a => .ok a s
  | none => .stuck
def lift1 (g : D → Option RV) (o : Opd) (s : Sto) : Out RV := outO ((o.get s).bind g) s
def lift2 (g : D → D → Option RV) (o p : Opd) (s : Sto) : Out RV := outO ((o.get s).bind fun d => (p.get s).bind fun e => g d e) s
def binG : BOp → D → D → Option RV
  | .add => gAdd
  | .sub => gI (fun _ _ => true) fun i j => .int (i - j)
  | .mul => gMul
  | .div => gI (fun _ j => decide (0 < j) && decide (j < 1073741824)) fun i j => .int (i / j)
  | .mod => gI (fun _ j => decide (0 < j)) fun i j => .int (i % j)
  | .pow => gI (fun i j => decide (0 ≤ j) && (decide (j ≤ 1000000) && decide (i.natAbs < 2 ^ 64))) fun i j => .int (i ^ j.toNat)
def cmpG : COp → D → D → Option RV
  | .eq => gEq
  | .ne => gNe
  | .lt => gLt
  | .le => gI (fun _ _ => true) fun i j => .bool (decide (i ≤ j))
  | .gt => gI (fun _ _ => true) fun i j => .bool (decide (j < i))
  | .ge => gI (fun _ _ => true) fun i j => .bool (decide (j ≤ i))
  | .is => gIs
  | .isn => gIsNot
  | .inn => gIn
  | .nin => gNotIn
def isTy : Ty → D → Bool
  | .int, .int _ => true
  | .int, .bool _ => true
  | .bool, .bool _ => true
  | .str, .str _ => true
  | .tuple, .tuple _ => true
  | .list, .list _ => true
  | .none, .none => true
  | _, _ => false
def bools : List D → Option (List Bool)
  | [] => some []
  | .bool b :: r => (bools r).map (b :: ·)
  | _ :: _ => none
def intsD : List D → Option (List Int)
  | [] => some []
  | .int b :: r => (intsD r).map (b :: ·)
  | _ :: _ => none
def biG : Bi → D → Option RV
  | .len, .list ds => some (.sh (.int ds.length))
  | .len, .tuple ds => some (.sh (.int ds.length))
  | .len, .str z => if z.length ≤ sizeLine then some (.sh (.int z.length)) else none
  | .all, .list ds => (bools ds).map fun bs => .sh (.bool (bs.all id))
  | .any, .list ds => (bools ds).map fun bs => .sh (.bool (bs.any id))
  | .sum, .list ds => (intsD ds).map fun ns => .sh (.int ns.sum)
  | .tup, .list ds => some (.sh (.tuple ds))
  | .tup, .tuple ds => some (.sh (.tuple ds))
  | .lst, .list ds => some (.fr (.list ds))
  | .lst, .tuple ds => some (.fr (.list ds))
  | .int, .int i => some (.sh (.int i))
  | _, _ => none
def minG : D → D → Option RV := gI (fun _ _ => true) fun i j => .int (if j < i then j else i)
def revG : D → Option RV
  | .list ds => some (.fr (.list ds.reverse))
  | .tuple ds => some (.sh (.tuple ds.reverse))
  | _ => none
def negG : D → Option RV
  | .int i => some (.sh (.int (-i)))
  | _ => none
def cutD (xs : List D) (lo hi : Option Int) : List D := (xs.drop (HT.sIx xs.length 0 lo)).take (HT.sIx xs.length xs.length hi - HT.sIx xs.length 0 lo)
def slcG (lo hi : Option Int) : D → Option RV
  | .tuple xs => some (.sh (.tuple (cutD xs lo hi)))
  | .list xs => some (.fr (.list (cutD xs lo hi)))
  | _ => none
/-- the ints a, a + 1, .. below b -/
def rangeD (a b : Int) : List D := (List.range (b - a).toNat).map fun (i : Nat) => .int (a + (i : Int))
def bindT : Tg → D → Sto → Option Sto
  | .nm i, d, s => some (s.set i (.sh d))
  | .tp is, .tuple ds, s => if ds.length = is.length then some { s with env := (is.zip ds).foldl (fun e p => e.set p.1 (some (.sh p.2))) s.env } else none
  | .tp _, _, _ => none
def lcLoop (f : D → Sto → Out (Option D)) : List D → List D → Sto → Out (List D)
  | [], acc, s => .ok acc s
  | x :: r, acc, s => match f x s with
    | .ok (some y) s' => if acc.length < sizeLine then lcLoop f r (acc ++ [y]) s' else .stuck
    | .ok none s' => lcLoop f r acc s'
    | _ => .stuck
def enumD (ds : List D) : List D := (List.range ds.length).zipWith (fun i d => .tuple [.int (i : Nat), d]) ds
def zipD (ds es : List D) : List D := ds.zipWith (fun d e => .tuple [d, e]) es
def zipItems : D → D → Option (List D)
  | .list ds, .list es => some (zipD ds es)
  | .tuple ds, .tuple es => some (zipD ds es)
  | _, _ => none
def enumItems : D → Option (List D)
  | .list ds => some (enumD ds)
  | _ => none
def seqItems : D → Option (List D)
  | .list ds => some ds
  | .tuple ds => some ds
  | _ => none
def rngItems (a b : D) : Option (List D) := match a, b with
  | .int i, .int j => if -(2 ^ 62) ≤ i ∧ i < 2 ^ 62 ∧ -(2 ^ 62) ≤ j ∧ j < 2 ^ 62 then some (rangeD i j) else none
  | _, _ => none
def isDeal (s : Sto) (i : Nat) : Bool := match s.env[i]? with
  | some (some .deal) => true
  | _ => false
def getOw (s : Sto) (i : Nat) : Option (List D) := match s.env[i]? with
  | some (some (.ow (.list ds))) => some ds
  | _ => none

def getOd (s : Sto) (i : Nat) : Option (List (D × D)) := match s.env[i]? with
  | some (some (.ow (.dict kvs))) => some kvs
  | _ => none
/-- a display of pairs -/
def dspK : List D → List D → List (D × D) → Option (List (D × D))
  | [], [], acc => some acc
  | k :: ks, d :: ds, acc => match keyV k with
    | some q => dspK ks ds (dPut acc q d)
    | none => none
  | _, _, _ => none
def dspG (ks ds : List D) : Option RV := if ks.length ≤ 15 then (dspK ks ds []).map fun kvs => .fr (.dict kvs) else none

def mkP (e : Ex) (f : Sto → Out RV) : (Sto → Out RV) × (Sto → Out Bool) :=
  (f, fun s => (opd e (f s) s).bind fun x s1 => outO ((x.get s1).bind truD) s1)
mutual
def evP (C : Cal) : Ex → (Sto → Out RV) × (Sto → Out Bool)
  | .v i => mkP (.v i) fun s => match s.env[i]? with
    | some (some (.sh d)) => .ok (.sh d) s
    | some (some (.ow d)) => .ok (.sh d) (s.set i (.sh d))
    | _ => .stuck
  | .lit d => mkP (.lit d) fun s => .ok (.sh d) s
  | .gl x_ d => mkP (.gl x_ d) fun s => .ok (.sh d) s
  | .tup es => mkP (.tup es) fun s => (evEs C es s).bind fun ds s' => if ds.length ≤ sizeLine then .ok (.sh (.tuple ds)) s' else .stuck
  | .lst es => mkP (.lst es) fun s => (evEs C es s).bind fun ds s' => if ds.length ≤ sizeLine then .ok (.fr (.list ds)) s' else .stuck
  | .bin o a b => mkP (.bin o a b) fun s => (opd a ((evP C a).1 s) s).bind fun x s1 => (opd b ((evP C b).1 s1) s1).bind fun y s2 => lift2 (binG o) x y s2
  | .cmp o a b => mkP (.cmp o a b) fun s => (opd a ((evP C a).1 s) s).bind fun x s1 => (opd b ((evP C b).1 s1) s1).bind fun y s2 => lift2 (cmpG o) x y s2
  | .chn o o' a b c => mkP (.chn o o' a b c) fun s => (opd a ((evP C a).1 s) s).bind fun x s1 => (opd b ((evP C b).1 s1) s1).bind fun y s2 =>
      (lift2 (cmpG o) x y s2).bind fun r s3 => match r.dat with
        | .bool true => (opd c ((evP C c).1 s3) s3).bind fun z s4 => lift2 (cmpG o') y z s4
        | .bool false => .ok (.sh (.bool false)) s3
        | _ => .stuck
  | .and a b => (fun s => ((evP C a).1 s).bind fun r s1 => match truD r.dat with
    | some true => (evP C b).1 s1
    | some false => .ok (.sh r.dat) s1
    | none => .stuck, fun s => ((evP C a).2 s).bind fun t s1 => if t then (evP C b).2 s1 else .ok false s1)
  | .or a b => (fun s => ((evP C a).1 s).bind fun r s1 => match truD r.dat with
    | some false => (evP C b).1 s1
    | some true => .ok (.sh r.dat) s1
    | none => .stuck, fun s => ((evP C a).2 s).bind fun t s1 => if t then .ok true s1 else (evP C b).2 s1)
  | .not a => (fun s => (opd a ((evP C a).1 s) s).bind fun x s1 => outO (((x.get s1).bind truD).map fun b => .sh (.bool (!b))) s1, fun s => ((evP C a).2 s).bind fun t s1 => .ok (!t) s1)
  | .ife c a b => mkP (.ife c a b) fun s => ((evP C c).2 s).bind fun t s1 => if t then (evP C a).1 s1 else (evP C b).1 s1
  | .neg a => mkP (.neg a) fun s => (opd a ((evP C a).1 s) s).bind fun x s1 => lift1 negG x s1
  | .ix a b => mkP (.ix a b) fun s => (opd a ((evP C a).1 s) s).bind fun x s1 => (opd b ((evP C b).1 s1) s1).bind fun y s2 => lift2 gIx x y s2
  | .slc a lo hi => mkP (.slc a lo hi) fun s => (opd a ((evP C a).1 s) s).bind fun x s1 => (evX C lo s1).bind fun l s2 => (evX C hi s2).bind fun h s3 =>
      outO ((x.get s3).bind (slcG l h)) s3
  | .isi a t => mkP (.isi a t) fun s => (opd a ((evP C a).1 s) s).bind fun x s1 => lift1 (fun d => some (.sh (.bool (isTy t d)))) x s1
  | .bi b a => mkP (.bi b a) fun s => (opd a ((evP C a).1 s) s).bind fun x s1 => lift1 (biG b) x s1
  | .min2 a b => mkP (.min2 a b) fun s => (opd a ((evP C a).1 s) s).bind fun x s1 => (opd b ((evP C b).1 s1) s1).bind fun y s2 => lift2 minG x y s2
  | .lens i => mkP (.lens i) fun s => match s.env[i]? with
    | some (some (.scr ns)) => .ok (.sh (.int ns.length)) s
    | _ => .stuck
  | .call f es => mkP (.call f es) fun s => (evA C es s).bind fun cs s1 => match C.fn f cs s1.dl with
    | .ret rv d => .ok rv { s1 with dl := d }
    | .exc c d => .exc c { s1 with dl := d }
    | .stuck => .stuck
  | .callk f es ws ks pm => mkP (.callk f es ws ks pm) fun s => (evA C es s).bind fun cs s1 => (evA C ws s1).bind fun ds s2 => if cs.length + ks.length = pm.length ∧ ds.length = ks.length then (match C.fn f (pm.filterMap fun j => (cs ++ ds)[j]?) s2.dl with
    | .ret rv d => .ok rv { s2 with dl := d }
    | .exc c d => .exc c { s2 with dl := d }
    | .stuck => .stuck) else .stuck
  | .draw i e => mkP (.draw i e) fun s => if !(isDeal s i) then .stuck else (opd e ((evP C e).1 s) s).bind fun x s1 => match s1.env[i]?, x.get s1, s1.dl with
    | some (some .deal), some (.int m), some dl => match C.tk dl m with
      | some (n, dl') => .ok (.sh (.int n)) { s1 with dl := some dl' }
      | none => .stuck
    | _, _, _ => .stuck
  | .lc own t it c e => mkP (.lc own t it c e) fun s => (evI C it s).bind fun items s1 =>
      (lcLoop (fun d s' => match bindT t d { s' with env := wipeE s'.env own } with
        | some s2 => (evC C c s2).bind fun b s3 => if b then ((evP C e).1 s3).bind fun rv s4 => .ok (some rv.dat) s4 else .ok none s3
        | none => .stuck) items [] s1).bind fun ds s2 => .ok (.fr (.list ds)) { s2 with env := restE s2.env s1.env own }
  | .pop i => mkP (.pop i) fun s => match getOw s i with
    | some ds => match ds.getLast? with
      | some d => .ok (.sh d) (s.set i (.ow (.list ds.dropLast)))
      | none => .stuck
    | none => .stuck
  | .popAt i e => mkP (.popAt i e) fun s => if (getOw s i).isNone then .stuck else (opd e ((evP C e).1 s) s).bind fun x s1 => match getOw s1 i, x.get s1 with
    | some ds, some (.int j) => if -(2 ^ 63) ≤ j ∧ j < 2 ^ 63 then (match seqIndex? j ds.length with
        | some k => match ds[k]? with
          | some d => .ok (.sh d) (s1.set i (.ow (.list (ds.eraseIdx k))))
          | none => .stuck
        | none => .stuck) else .stuck
    | _, _ => .stuck
  | .app i e => mkP (.app i e) fun s => if (getOw s i).isNone then .stuck else ((evP C e).1 s).bind fun r s1 => match getOw s1 i with
    | some ds => if ds.length < sizeLine then .ok (.sh .none) (s1.set i (.ow (.list (ds ++ [r.dat])))) else .stuck
    | none => .stuck
  | .ext i e => mkP (.ext i e) fun s => if (getOw s i).isNone then .stuck else (opd e ((evP C e).1 s) s).bind fun x s1 => match getOw s1 i, x.get s1 with
    | some ds, some (.list es) => if ds.length + es.length ≤ sizeLine then .ok (.sh .none) (s1.set i (.ow (.list (ds ++ es)))) else .stuck
    | _, _ => .stuck
  | .rev a => mkP (.rev a) fun s => (opd a ((evP C a).1 s) s).bind fun x s1 => lift1 revG x s1
  | .emp => mkP .emp fun s => .ok (.fr (.dict [])) s
  | .dsp ks es => mkP (.dsp ks es) fun s => (evEs C es s).bind fun ds s' => outO (dspG ks ds) s'
  | .cuts i k => mkP (.cuts i k) fun s => match s.env[i]? with
    | some (some (.scr ns)) => .ok (.fr (.list ((ns.take k).map PyData.int))) s
    | _ => .stuck
  | .dget i k => mkP (.dget i k) fun s => match isDeal s i, s.dl with
    | true, some dl => match dl.rest[k]? with
      | some n => .ok (.sh (.int n)) s
      | none => .stuck
    | _, _ => .stuck
  | .dpop i => mkP (.dpop i) fun s => match s.env[i]?, s.dl with
    | some (some .dcl), some dl => match dl.cells with
      | n :: r => .ok (.sh (.int n)) { s with dl := some { dl with cells := r } }
      | [] => .stuck
    | _, _ => .stuck
def evEs (C : Cal) : Exs → Sto → Out (List D)
  | .nil, s => .ok [] s
  | .cons e es, s => ((evP C e).1 s).bind fun r s1 => (evEs C es s1).bind fun ds s2 => .ok (r.dat :: ds) s2
def evA (C : Cal) : Exs → Sto → Out (List Cell)
  | .nil, s => .ok [] s
  | .cons e es, s => match (match e with
      | .v i => isDeal s i
      | _ => false) with
    | true => (evA C es s).bind fun ds s2 => .ok (.deal :: ds) s2
    | false => ((evP C e).1 s).bind fun r s1 => (evA C es s1).bind fun ds s2 => .ok (.sh r.dat :: ds) s2
def evX (C : Cal) : Exo → Sto → Out (Option Int)
  | .no, s => .ok none s
  | .so e, s => ((evP C e).1 s).bind fun r s1 => match r.dat with
    | .int i => .ok (some i) s1
    | _ => .stuck
def evC (C : Cal) : Exo → Sto → Out Bool
  | .no, s => .ok true s
  | .so e, s => (evP C e).2 s
def evI (C : Cal) : Itr → Sto → Out (List D)
  | .rg1 a, s => ((evP C a).1 s).bind fun r s1 => outO (rngItems (.int 0) r.dat) s1
  | .rg2 a b, s => ((evP C a).1 s).bind fun r s1 => ((evP C b).1 s1).bind fun q s2 => outO (rngItems r.dat q.dat) s2
  | .seq a, s => ((evP C a).1 s).bind fun r s1 => outO (seqItems r.dat) s1
  | .enum a, s => ((evP C a).1 s).bind fun r s1 => outO (enumItems r.dat) s1
  | .zip a b, s => ((evP C a).1 s).bind fun r s1 => ((evP C b).1 s1).bind fun q s2 => outO (zipItems r.dat q.dat) s2
  | .rev a, s => ((evP C a).1 s).bind fun r s1 => outO ((seqItems r.dat).map List.reverse) s1
end
abbrev evE (C : Cal) (e : Ex) : Sto → Out RV := (evP C e).1
abbrev evT (C : Cal) (e : Ex) : Sto → Out Bool := (evP C e).2

def evR (C : Cal) : Exs → Sto → Out (List RV)
  | .nil, s => .ok [] s
  | .cons e es, s => (evE C e s).bind fun r s1 => (evR C es s1).bind fun rs s2 => .ok (r :: rs) s2
def setAll : List Nat → List RV → Sto → Sto
  | i :: is, r :: rs, s => setAll is rs (s.set i r.cell)
  | _, _, s => s
inductive Fl
  | nx
  | brk
  | cnt
  | ret (rv : RV)
def forLoop (f : D → Sto → Out Fl) : List D → Sto → Out Fl
  | [], s => .ok .nx s
  | x :: r, s => (f x s).bind fun fl s' => match fl with
    | .nx => forLoop f r s'
    | .cnt => forLoop f r s'
    | .brk => .ok .nx s'
    | .ret rv => .ok (.ret rv) s'
def whlLoop (c : Sto → Out Bool) (b : Sto → Out Fl) : Nat → Sto → Out Fl
  | 0, _ => .stuck
  | n + 1, s => (c s).bind fun t s1 => if t then (b s1).bind fun fl s2 => (match fl with
      | .nx => whlLoop c b n s2
      | .cnt => whlLoop c b n s2
      | .brk => .ok .nx s2
      | .ret rv => .ok (.ret rv) s2) else .ok .nx s1
def turns : Nat := 1000000000
def retV (e : Ex) (r : Out RV) (s : Sto) : Out RV := match e with
  | .v i => match s.env[i]? with
    | some (some (.ow d)) => .ok (.fr d) s
    | some (some (.sh d)) => .ok (.sh d) s
    | _ => .stuck
  | _ => r
/-- is class c one of c'? (the classes of the package are direct children of one class) -/
def excHd (c c' : Str) : Bool := decide (c = c')
/-- x[i] = e, a list or a dict of one's own -/
def subG (l : Option (List D)) (m : Option (List (D × D))) (k : Option D) (i : Nat) (d : D) (s : Sto) : Out Fl := match l, m, k with
  | some ds, _, some (.int k) => (match ixN ds.length k with
    | some j => .ok .nx (s.set i (.ow (.list (ds.set j d))))
    | none => .stuck)
  | none, some kvs, some k => (match keyV k with
    | some q => if kvs.length < sizeLine then .ok .nx (s.set i (.ow (.dict (dPut kvs q d)))) else .stuck
    | none => .stuck)
  | _, _, _ => .stuck
def noExc (o : Out Fl) : Out Fl := match o with
  | .exc _ _ => .stuck
  | .ok f s => .ok f s
  | .stuck => .stuck
mutual
def evS (C : Cal) : Sm → Sto → Out Fl
  | .asg i e, s => (evE C e s).bind fun r s1 => .ok .nx (s1.set i r.cell)
  | .par is es, s => (evR C es s).bind fun rs s1 => if rs.length = is.length then .ok .nx (setAll is rs s1) else .stuck
  | .unp is e, s => (evE C e s).bind fun r s1 => match bindT (.tp is) r.dat s1 with
    | some s2 => .ok .nx s2
    | none => .stuck
  | .sub i ix e, s => (evE C e s).bind fun r s1 => if (getOw s1 i).isNone && (getOd s1 i).isNone then .stuck else (opd ix (evE C ix s1) s1).bind fun x s2 => subG (getOw s2 i) (getOd s2 i) (x.get s2) i r.dat s2
  | .aug i o e, s => if ((Opd.slot i).get s).isNone then .stuck else (opd e (evE C e s) s).bind fun y s1 => match (Opd.slot i).get s1, y.get s1 with
    | some (.int a), some (.int b) => (match binG o (.int a) (.int b) with
      | some r => .ok .nx (s1.set i r.cell)
      | none => .stuck)
    | _, _ => .stuck
  | .exp e, s => (evE C e s).bind fun _ s1 => .ok .nx s1
  | .ret e, s => (retV e (evE C e s) s).bind fun r s1 => .ok (.ret r) s1
  | .retN, s => .ok (.ret (.sh .none)) s
  | .iff c a b, s => (evT C c s).bind fun t s1 => if t then evSs C a s1 else evSs C b s1
  | .forr t it b, s => (evI C it s).bind fun items s1 => forLoop (fun d s' => match bindT t d s' with
    | some s2 => evSs C b s2
    | none => .stuck) items s1
  | .whl c b, s => whlLoop (evT C c) (evSs C b) turns s
  | .rse c, s => .exc c s
  | .tryy b h, s => match evSs C b s with
    | .exc c s1 => if c ∈ C.ex then evH C h c s1 else .stuck
    | r => r
  | .brk, s => .ok .brk s
  | .cnt, s => .ok .cnt s
  | .pas, s => .ok .nx s
  | .dcel j i, s => if isDeal s i then .ok .nx (s.set j .dcl) else .stuck
  | .dset i k e, s => (evE C e s).bind fun r s1 => if !(isDeal s1 i) then .stuck else match r.dat, s1.dl with
    | .int n, some dl => if k < dl.rest.length then .ok .nx { s1 with dl := some { dl with rest := dl.rest.set k n } } else .stuck
    | _, _ => .stuck
def evSs (C : Cal) : Sms → Sto → Out Fl
  | .nil, s => .ok .nx s
  | .cons st r, s => (evS C st s).bind fun f s' => match f with
    | .nx => evSs C r s'
    | .brk => .ok .brk s'
    | .cnt => .ok .cnt s'
    | .ret rv => .ok (.ret rv) s'
def evH (C : Cal) : Hds → Str → Sto → Out Fl
  | .nil, c, s => .exc c s
  | .cons c' b r, c, s => if excHd c c' then noExc (evSs C b s) else evH C r c s
end
structure Def where
  np : Nat
  nn : Nat
  body : Sms
def runDef (C : Cal) (f : Def) (args : List Cell) (dl : Option Dl) : CRes :=
  if args.length = f.np then (match evSs C f.body ⟨args.map some ++ List.replicate (f.nn - f.np) none, dl⟩ with
    | .ok .nx s => .ret (.sh .none) s.dl
    | .ok (.ret rv) s => .ret rv s.dl
    | .exc c s => .exc c s.dl
    | _ => .stuck) else .stuck
structure Tab where
  fn : Str → Option Def
  tk : Dl → Int → Option (Int × Dl)
  ex : List Str
def call (T : Tab) : Nat → Str → List Cell → Option Dl → CRes
  | 0, _, _, _ => .stuck
  | n + 1, f, args, dl => match T.fn f with
    | some df => runDef ⟨call T n, T.tk, T.ex⟩ df args dl
    | none => .stuck
end WV
namespace WV
open PySem PySem.Spec PyProof.Rows L2

abbrev SS := L2.St
abbrev DA := Option (Addr × Addr)
def isDA (dA : DA) (a : Addr) : Prop := ∃ x y, dA = some (x, y) ∧ (a = x ∨ a = y)
def CRep (K : KW) (dA : DA) (F H : Hp) (v : V) : Cell → Prop
  | .sh d => Rep K F v d
  | .ow d => ∃ a, v = .ref a ∧ F a = none ∧ ¬ isDA dA a ∧ Own K F H a d
  | .deal => ∃ x y, dA = some (x, y) ∧ v = .ref x
  | .dcl => ∃ x y, dA = some (x, y) ∧ v = .ref y
  | .scr ns => ∃ a, v = .ref a ∧ SqL K F a (ns.map V.int)
def DealOk (dA : DA) (F H : Hp) : Option Dl → Prop
  | none => dA = none
  | some d => ∃ a c, dA = some (a, c) ∧ a ≠ c ∧ H a = some (.lst (.ref c :: d.rest.map V.int)) ∧ H c = some (.lst (d.cells.map V.int)) ∧ F a = none ∧ F c = none
/-- own slots' addresses -/
def OA (σ : SS) (s : Sto) (a : Addr) : Prop := ∃ (i : Nat) (d : D), s.env[i]? = some (some (.ow d)) ∧ σ[i]? = some (some (.ref a))
structure Rel (K : KW) (dA : DA) (F H : Hp) (σ : SS) (s : Sto) : Prop where
  sub : Same F H
  len : s.env.length = σ.length
  at_ : ∀ (i : Nat) (c : Cell), s.env[i]? = some (some c) → ∃ v, σ[i]? = some (some v) ∧ CRep K dA F H v c
  apart : ∀ (i j : Nat) (d e : D) (a : Addr), s.env[i]? = some (some (.ow d)) → s.env[j]? = some (some (.ow e)) → σ[i]? = some (some (.ref a)) → σ[j]? = some (some (.ref a)) → i = j
  deal : DealOk dA F H s.dl
structure Ext (dA : DA) (σ : SS) (s : Sto) (F H : Hp) (s' : Sto) (F' H' : Hp) : Prop where
  keep : ∀ a o, H a = some o → ¬ OA σ s a → ¬ isDA dA a → H' a = some o
  live : ∀ a, H a ≠ none → H' a ≠ none
  fs : Same F F'
  nw : ∀ a, F' a ≠ none → F a ≠ none ∨ OA σ s a ∨ H a = none
  ow : ∀ a, OA σ s' a → OA σ s a

section
variable {K : KW} {dA : DA} {F F' F1 F2 H H' H1 H2 : Hp} {σ : SS} {s s' s1 s2 : Sto} {v : V} {a : Addr} {d : D}
theorem Own.there (h : Own K F H a d) : H a ≠ none := by
  cases d with
  | list ds =>
    obtain ⟨vs, e, _⟩ := h
    rw [e]
    exact fun z => nomatch z
  | dict kvs =>
    obtain ⟨ks, vs, e, _⟩ := h
    rw [e]
    exact fun z => nomatch z
  | _ => exact h.elim
theorem Own.ob (h : Own K F H a d) : ∃ o, H a = some o ∧ ∀ F', Same F F' → F' a = some o → Rep K F' (.ref a) d := by
  cases d with
  | list ds =>
    obtain ⟨vs, e, r⟩ := h
    exact ⟨_, e, fun F' sf q => .lst q (r.mono sf)⟩
  | dict kvs =>
    obtain ⟨ks, vs, e, ek, r⟩ := h
    exact ⟨_, e, fun F' sf q => .dmx q ek (r.mono sf)⟩
  | _ => exact h.elim
theorem Own.keep (h : Own K F H a d) (fs : Same F F') (k : ∀ o, H a = some o → H' a = some o) : Own K F' H' a d := by
  cases d with
  | list ds =>
    obtain ⟨vs, e, r⟩ := h
    exact ⟨vs, k _ e, r.mono fs⟩
  | dict kvs =>
    obtain ⟨ks, vs, e, ek, r⟩ := h
    exact ⟨ks, vs, k _ e, ek, r.mono fs⟩
  | _ => exact h.elim
theorem Rel.own (R : Rel K dA F H σ s) {i : Nat} (h : s.env[i]? = some (some (.ow d))) : ∃ a, σ[i]? = some (some (.ref a)) ∧ F a = none ∧ ¬ isDA dA a ∧ Own K F H a d ∧ OA σ s a := by
  obtain ⟨v, e, a, rfl, h1, h2, h3⟩ := R.at_ i _ h
  exact ⟨a, e, h1, h2, h3, i, d, h, e⟩
theorem Rel.oa (R : Rel K dA F H σ s) (h : OA σ s a) : F a = none ∧ ¬ isDA dA a ∧ H a ≠ none := by
  obtain ⟨i, d, h1, h2⟩ := h
  obtain ⟨b, e, q1, q2, q3, _⟩ := R.own h1
  rw [h2] at e
  cases e
  exact ⟨q1, q2, q3.there⟩
theorem Rel.da (R : Rel K dA F H σ s) (h : isDA dA a) : F a = none ∧ H a ≠ none := by
  obtain ⟨x, y, e, q⟩ := h
  have hd := R.deal
  cases hdl : s.dl with
  | none =>
    rw [hdl] at hd
    rw [show dA = none from hd] at e
    cases e
  | some dl =>
    rw [hdl] at hd
    obtain ⟨a', c', e', _, h1, h2, h3, h4⟩ := hd
    rw [e] at e'
    cases e'
    rcases q with rfl | rfl
    · exact ⟨h3, by rw [h1]; exact fun z => nomatch z⟩
    · exact ⟨h4, by rw [h2]; exact fun z => nomatch z⟩
theorem Ext.refl : Ext dA σ s F H s F H := ⟨fun _ _ h _ _ => h, fun _ h => h, same_refl, fun _ h => .inl h, fun _ h => h⟩
theorem Ext.trans (x : Ext dA σ s F H s1 F1 H1) (y : Ext dA σ s1 F1 H1 s2 F2 H2) : Ext dA σ s F H s2 F2 H2 where
  keep := fun a o h n1 n2 => y.keep a o (x.keep a o h n1 n2) (fun z => n1 (x.ow a z)) n2
  live := fun a h => y.live a (x.live a h)
  fs := Same.trans' x.fs y.fs
  nw := fun a h => by
    rcases y.nw a h with q | q | q
    · exact x.nw a q
    · exact .inr (.inl (x.ow a q))
    · refine .inr (.inr ?_)
      cases e : H a with
      | none => rfl
      | some o => exact absurd q (x.live a (by rw [e]; exact fun z => nomatch z))
  ow := fun a h => x.ow a (y.ow a h)
theorem NewF.live (n : NewF F H F' H') (a : Addr) (h : H a ≠ none) : H' a ≠ none := fun z => by
  cases e : H a with
  | none => exact h e
  | some o => rw [n.hs a o e] at z; cases z
theorem Ext.ofNew (n : NewF F H F' H') : Ext dA σ s F H s F' H' :=
  ⟨fun a o h _ _ => n.hs a o h, n.live, n.fs, fun a h => (n.nw a h).elim .inl fun q => .inr (.inr q), fun _ h => h⟩
theorem CRep.newF (n : NewF F H F' H') {c : Cell} (h : CRep K dA F H v c) : CRep K dA F' H' v c := by
  cases c with
  | sh d => exact Rep.mono n.fs h
  | ow d =>
    obtain ⟨a, rfl, h1, h2, h3⟩ := h
    refine ⟨a, rfl, ?_, h2, h3.keep n.fs fun o e => n.hs a o e⟩
    cases e : F' a with
    | none => rfl
    | some o =>
      rcases n.nw a (by rw [e]; exact fun z => nomatch z) with q | q
      · exact absurd h1 q
      · exact absurd q h3.there
  | deal => exact h
  | dcl => exact h
  | scr ns =>
    obtain ⟨a, rfl, h1⟩ := h
    exact ⟨a, rfl, seqL_mono n.fs h1⟩
theorem DealOk.newF (n : NewF F H F' H') {o : Option Dl} (h : DealOk dA F H o) : DealOk dA F' H' o := by
  cases o with
  | none => exact h
  | some d =>
    obtain ⟨a, c, e, ne, h1, h2, h3, h4⟩ := h
    have fz : ∀ b u, H b = some u → F b = none → F' b = none := fun b u hb hf => by
      cases e : F' b with
      | none => rfl
      | some o =>
        rcases n.nw b (by rw [e]; exact fun z => nomatch z) with q | q
        · exact absurd hf q
        · rw [hb] at q; cases q
    exact ⟨a, c, e, ne, n.hs _ _ h1, n.hs _ _ h2, fz _ _ h1 h3, fz _ _ h2 h4⟩
theorem Rel.newF (R : Rel K dA F H σ s) (n : NewF F H F' H') : Rel K dA F' H' σ s :=
  ⟨n.fh, R.len, fun i c h => by
    obtain ⟨v, e, q⟩ := R.at_ i c h
    exact ⟨v, e, q.newF n⟩, R.apart, R.deal.newF n⟩
/-- a result, ready to be kept -/
def RRes (K : KW) (H0 F H : Hp) (v : V) (rv : RV) : Prop := RRep K H0 F H v rv
theorem RRep.weak {H0 H00 : Hp} {rv : RV} (h : RRep K H0 F H v rv) (l : ∀ a, H00 a ≠ none → H0 a ≠ none) : RRep K H00 F H v rv := by
  cases rv with
  | sh d => exact h
  | fr d =>
    obtain ⟨a, e, h1, h2, h3⟩ := h
    refine ⟨a, e, h1, ?_, h3⟩
    cases q : H00 a with
    | none => rfl
    | some o => exact absurd h2 (l a (by rw [q]; exact fun z => nomatch z))
/-- .. frozen: R and the extension stay -/
theorem RRep.freeze {H0 F0 : Hp} {s0 : Sto} {rv : RV} (h : RRep K H0 F H v rv) (R0 : Rel K dA F0 H0 σ s0) (R : Rel K dA F H σ s) (x : Ext dA σ s0 F0 H0 s F H) :
    ∃ F', Rel K dA F' H σ s ∧ Ext dA σ s0 F0 H0 s F' H ∧ Rep K F' v rv.dat ∧ Same F F' := by
  cases rv with
  | sh d => exact ⟨F, R, x, h, same_refl⟩
  | fr d =>
    obtain ⟨a, rfl, h1, h2, h3⟩ := h
    obtain ⟨ob, e, rp⟩ := h3.ob
    have sf : Same F (upd F a ob) := same_new h1
    have nOA : ∀ b, OA σ s b → b ≠ a := fun b q z => by
      subst z
      exact (R0.oa (x.ow b q)).2.2 h2
    have nDA : ∀ b, isDA dA b → b ≠ a := fun b q z => by
      subst z
      exact (R0.da q).2 h2
    have nF : ∀ b, b ≠ a → F b = none → (upd F a ob) b = none := fun b nb q => by rw [upd_ne nb]; exact q
    refine ⟨upd F a ob, ⟨fun b o q => ?_, R.len, fun i c q => ?_, R.apart, ?_⟩, ⟨x.keep, x.live, Same.trans' x.fs sf, fun b q => ?_, x.ow⟩, rp _ sf upd_same, sf⟩
    · by_cases z : b = a
      · subst z; rw [upd_same] at q; rw [e]; exact q
      · rw [upd_ne z] at q; exact R.sub b o q
    · obtain ⟨v, e1, q1⟩ := R.at_ i c q
      refine ⟨v, e1, ?_⟩
      cases c with
      | sh d => exact Rep.mono sf q1
      | ow d =>
        obtain ⟨b, rfl, h4, h5, h6⟩ := q1
        exact ⟨b, rfl, nF b (nOA b ⟨i, d, q, e1⟩) h4, h5, h6.keep sf fun _ z => z⟩
      | deal => exact q1
      | dcl => exact q1
      | scr ns =>
        obtain ⟨b, rfl, h4⟩ := q1
        exact ⟨b, rfl, seqL_mono sf h4⟩
    · have hd := R.deal
      cases hdl : s.dl with
      | none => rw [hdl] at hd; exact hd
      | some dl =>
        rw [hdl] at hd
        obtain ⟨a', c', e', ne, q1, q2, q3, q4⟩ := hd
        exact ⟨a', c', e', ne, q1, q2, nF _ (nDA a' ⟨_, _, e', .inl rfl⟩) q3, nF _ (nDA c' ⟨_, _, e', .inr rfl⟩) q4⟩
    · by_cases z : b = a
      · subst z; exact .inr (.inr h2)
      · rw [upd_ne z] at q; exact x.nw b q
/-- a slot is frozen -/
theorem Rel.freezeSlot (R : Rel K dA F H σ s) {i : Nat} (h : s.env[i]? = some (some (.ow d))) :
    ∃ F' v, σ[i]? = some (some v) ∧ Rep K F' v d ∧ Rel K dA F' H σ (s.set i (.sh d)) ∧ Ext dA σ s F H (s.set i (.sh d)) F' H := by
  obtain ⟨a, e, h1, h2, h3, h4⟩ := R.own h
  obtain ⟨ob, e1, rp⟩ := h3.ob
  have sf : Same F (upd F a ob) := same_new h1
  have hi : i < s.env.length := (List.getElem?_eq_some_iff.mp h).1
  have same_i : (s.set i (.sh d)).env[i]? = some (some (.sh d)) := by
    show (s.env.set i _)[i]? = _
    rw [List.getElem?_set_self hi]
  have other : ∀ j, j ≠ i → (s.set i (.sh d)).env[j]? = s.env[j]? := fun j hj => by
    show (s.env.set i _)[j]? = _
    rw [List.getElem?_set_ne (Ne.symm hj)]
  have back : ∀ j dd, (s.set i (.sh d)).env[j]? = some (some (.ow dd)) → j ≠ i ∧ s.env[j]? = some (some (.ow dd)) := fun j dd q => by
    by_cases z : j = i
    · subst z; rw [same_i] at q; cases q
    · rw [other j z] at q; exact ⟨z, q⟩
  have nF : ∀ b, b ≠ a → F b = none → (upd F a ob) b = none := fun b nb q => by rw [upd_ne nb]; exact q
  refine ⟨upd F a ob, .ref a, e, rp _ sf upd_same, ⟨fun b o q => ?_, ?_, fun j c q => ?_, fun j k d e a q1 q2 q3 q4 => ?_, ?_⟩, ⟨fun _ _ q _ _ => q, fun _ q => q, sf, fun b q => ?_, fun b q => ?_⟩⟩
  · by_cases z : b = a
    · subst z; rw [upd_same] at q; rw [e1]; exact q
    · rw [upd_ne z] at q; exact R.sub b o q
  · show (s.env.set i _).length = _
    rw [List.length_set]; exact R.len
  · by_cases z : j = i
    · subst z
      rw [same_i] at q
      cases q
      exact ⟨_, e, rp _ sf upd_same⟩
    · rw [other j z] at q
      obtain ⟨v, e2, q2⟩ := R.at_ j c q
      refine ⟨v, e2, ?_⟩
      cases c with
      | sh d => exact Rep.mono sf q2
      | ow d =>
        obtain ⟨b, rfl, h5, h6, h7⟩ := q2
        refine ⟨b, rfl, nF b (fun zz => ?_) h5, h6, h7.keep sf fun _ z => z⟩
        subst zz
        exact z (R.apart j i _ _ b q h e2 e)
      | deal => exact q2
      | dcl => exact q2
      | scr ns =>
        obtain ⟨b, rfl, h4⟩ := q2
        exact ⟨b, rfl, seqL_mono sf h4⟩
  · exact R.apart j k _ _ a (back j _ q1).2 (back k _ q2).2 q3 q4
  · have hd : DealOk dA F H s.dl := R.deal
    show DealOk dA _ H s.dl
    cases hdl : s.dl with
    | none => rw [hdl] at hd; exact hd
    | some dl =>
      rw [hdl] at hd
      obtain ⟨a', c', e', ne, q1, q2, q3, q4⟩ := hd
      exact ⟨a', c', e', ne, q1, q2, nF _ (fun z => h2 ⟨_, _, e', .inl z.symm⟩) q3, nF _ (fun z => h2 ⟨_, _, e', .inr z.symm⟩) q4⟩
  · by_cases z : b = a
    · subst z; exact .inr (.inl h4)
    · rw [upd_ne z] at q; exact .inl q
  · obtain ⟨j, dd, q1, q2⟩ := q
    exact ⟨j, dd, (back j _ q1).2, q2⟩
end

/-! ## readings -/
/-- what is wanted behind an expression -/
def PostE (X : Cx) (dA : DA) (W : WX) (σ : SS) (s : Sto) (F H : Hp) (Q : RV → V → Hp → Prop) : Out RV → Prop
  | .ok rv s' => ∀ v F' H', Rel X.KW dA F' H' σ s' → Ext dA σ s F H s' F' H' → RRep X.KW H F' H' v rv → Q rv v H'
  | .exc c s' => ∀ C F' H', X.mg c = some (.ref C) → Rel X.KW dA F' H' σ s' → Ext dA σ s F H s' F' H' → W (.ref C) none σ H'
  | .stuck => False
def TEof (X : Cx) (dA : DA) (W : WX) (f : Sto → Out RV) : TE := fun σ H Q => ∃ F s, Rel X.KW dA F H σ s ∧ PostE X dA W σ s F H (fun _ => Q) (f s)
def ORep (K : KW) (F : Hp) (σ : SS) (v : V) : Opd → Prop
  | .slot i => σ[i]? = some (some v)
  | .dat d => Rep K F v d
/-- behind an operand, a test, a list: by a relation of the answer and the value -/
def PostG {α β : Type} (X : Cx) (dA : DA) (W : WX) (σ : SS) (s : Sto) (F H : Hp) (G : α → β → Hp → Prop) (Q : β → Hp → Prop) : Out α → Prop
  | .ok o s' => ∀ v F' H', Rel X.KW dA F' H' σ s' → Ext dA σ s F H s' F' H' → G o v F' → Q v H'
  | .exc c s' => ∀ C F' H', X.mg c = some (.ref C) → Rel X.KW dA F' H' σ s' → Ext dA σ s F H s' F' H' → W (.ref C) none σ H'
  | .stuck => False
def TOof (X : Cx) (dA : DA) (W : WX) (f : Sto → Out Opd) : TE := fun σ H Q => ∃ F s, Rel X.KW dA F H σ s ∧ PostG X dA W σ s F H (fun o v F' => ORep X.KW F' σ v o) Q (f s)
def TDof (X : Cx) (dA : DA) (W : WX) (f : Sto → Out D) : TE := fun σ H Q => ∃ F s, Rel X.KW dA F H σ s ∧ PostG X dA W σ s F H (fun d v F' => Rep X.KW F' v d) Q (f s)
def TTof (X : Cx) (dA : DA) (W : WX) (f : Sto → Out Bool) : TT := fun σ H Q => ∃ F s, Rel X.KW dA F H σ s ∧ PostG X dA W σ s F H (fun b c _ => c = b) Q (f s)
def TAof (X : Cx) (dA : DA) (W : WX) (f : Sto → Out (List D)) : TA := fun σ H Q => ∃ F s, Rel X.KW dA F H σ s ∧ PostG X dA W σ s F H (fun ds vs F' => RepA X.KW F' vs ds) Q (f s)
theorem _root_.L2.PE.mono {X : Cx} {e : Expr} {t t' : TE} (h : PE X e t) (i : ∀ σ H Q, t' σ H Q → t σ H Q) : PE X e t' := ⟨fun pins s σ H Q I w => h.run pins s σ H Q I (i σ H Q w)⟩
theorem _root_.L2.PT.mono {X : Cx} {e : Expr} {t t' : TT} (h : PT X e t) (i : ∀ σ H Q, t' σ H Q → t σ H Q) : PT X e t' := ⟨fun pins s σ H Q I w => h.run pins s σ H Q I (i σ H Q w)⟩
theorem _root_.L2.PW.mono {X : Cx} {e : Expr} {t t' : TT} (h : PW X e t) (i : ∀ σ H Q, t' σ H Q → t σ H Q) : PW X e t' := ⟨fun wh pins s σ H Q I w => h.run wh pins s σ H Q I (i σ H Q w)⟩
theorem _root_.L2.PA.mono {X : Cx} {e : List Expr} {t t' : TA} (h : PA X e t) (i : ∀ σ H Q, t' σ H Q → t σ H Q) : PA X e t' := ⟨fun pos pins s σ H Q I w => h.run pos pins s σ H Q I (i σ H Q w)⟩
theorem _root_.L2.PS.mono {X : Cx} {e : Stmt} {t t' : TS} (h : PS X e t) (i : ∀ D σ H, t' D σ H → t D σ H) : PS X e t' := ⟨fun pins s σ H D I w => h.run pins s σ H D I (i D σ H w)⟩
theorem _root_.L2.PSs.mono {X : Cx} {e : List Stmt} {t t' : TS} (h : PSs X e t) (i : ∀ D σ H, t' D σ H → t D σ H) : PSs X e t' := ⟨fun pins s σ H D I w => h.run pins s σ H D I (i D σ H w)⟩
end WV
namespace WV
open PySem PySem.Spec PyProof.Rows L2

section
variable {X : Cx} {dA : DA} {W : WX} {σ : SS} {s s' s1 s2 : Sto} {F F' F1 F2 H H' H1 H2 : Hp} {α β γ : Type}
abbrev GE (K : KW) (H : Hp) : RV → V → Hp → Prop := fun _ _ _ => True
/-- behind a part: in front of the rest -/
theorem PostG.bind {G1 : α → γ → Hp → Prop} {o : Out α} {f : α → Sto → Out RV} {Q : VK} {Q1 : γ → Hp → Prop} (h : PostE X dA W σ s F H (fun _ => Q) (o.bind f))
    (k : ∀ a s1 v F1 H1, o = .ok a s1 → Rel X.KW dA F1 H1 σ s1 → Ext dA σ s F H s1 F1 H1 → G1 a v F1 → PostE X dA W σ s1 F1 H1 (fun _ => Q) (f a s1) → Q1 v H1) : PostG X dA W σ s F H G1 Q1 o := by
  cases o with
  | stuck => exact h
  | exc c s' => exact h
  | ok a s1 =>
    intro v F1 H1 R1 x1 g1
    refine k a s1 v F1 H1 rfl R1 x1 g1 ?_
    have h' : PostE X dA W σ s F H (fun _ => Q) (f a s1) := h
    revert h'
    cases f a s1 with
    | stuck => exact fun h => h
    | exc c s' => exact fun h C F' H' e R' x' => h C F' H' e R' (x1.trans x')
    | ok rv s' => exact fun h v F' H' R' x' r => h v F' H' R' (x1.trans x') (r.weak x1.live)
/-- the same in front of a test, an operand .. -/
theorem PostG.bindG {G1 : α → γ → Hp → Prop} {G2 : β → V → Hp → Prop} {o : Out α} {f : α → Sto → Out β} {Q : V → Hp → Prop} {Q1 : γ → Hp → Prop} (h : PostG X dA W σ s F H G2 Q (o.bind f))
    (k : ∀ a s1 v F1 H1, o = .ok a s1 → Rel X.KW dA F1 H1 σ s1 → Ext dA σ s F H s1 F1 H1 → G1 a v F1 → PostG X dA W σ s1 F1 H1 G2 Q (f a s1) → Q1 v H1) : PostG X dA W σ s F H G1 Q1 o := by
  cases o with
  | stuck => exact h
  | exc c s' => exact h
  | ok a s1 =>
    intro v F1 H1 R1 x1 g1
    refine k a s1 v F1 H1 rfl R1 x1 g1 ?_
    have h' : PostG X dA W σ s F H G2 Q (f a s1) := h
    revert h'
    cases f a s1 with
    | stuck => exact fun h => h
    | exc c s' => exact fun h C F' H' e R' x' => h C F' H' e R' (x1.trans x')
    | ok rv s' => exact fun h v F' H' R' x' r => h v F' H' R' (x1.trans x') r
theorem PostG.bindG' {δ : Type} {G1 : α → γ → Hp → Prop} {G2 : β → δ → Hp → Prop} {o : Out α} {f : α → Sto → Out β} {Q : δ → Hp → Prop} {Q1 : γ → Hp → Prop} (h : PostG X dA W σ s F H G2 Q (o.bind f))
    (k : ∀ a s1 v F1 H1, o = .ok a s1 → Rel X.KW dA F1 H1 σ s1 → Ext dA σ s F H s1 F1 H1 → G1 a v F1 → PostG X dA W σ s1 F1 H1 G2 Q (f a s1) → Q1 v H1) : PostG X dA W σ s F H G1 Q1 o := by
  cases o with
  | stuck => exact h
  | exc c s' => exact h
  | ok a s1 =>
    intro v F1 H1 R1 x1 g1
    refine k a s1 v F1 H1 rfl R1 x1 g1 ?_
    have h' : PostG X dA W σ s F H G2 Q (f a s1) := h
    revert h'
    cases f a s1 with
    | stuck => exact fun h => h
    | exc c s' => exact fun h C F' H' e R' x' => h C F' H' e R' (x1.trans x')
    | ok rv s' => exact fun h v F' H' R' x' r => h v F' H' R' (x1.trans x') r
/-- the end of an operation -/
theorem PostE.fin {rv : RV} {Q : VK} (R : Rel X.KW dA F H σ s) (h : PostE X dA W σ s F H (fun _ => Q) (.ok rv s)) : ∀ v F' H', NewF F H F' H' → RRep X.KW H F' H' v rv → Q v H' :=
  fun v F' H' n r => h v F' H' (R.newF n) (Ext.ofNew n) r
theorem ORep.brep {K : KW} {v : V} {o : Opd} {d : D} (R : Rel K dA F2 H2 σ s2) (x : Same F1 F2) (h : ORep K F1 σ v o) (e : o.get s2 = some d) : BRep K F2 H2 v d := by
  cases o with
  | dat d' =>
    cases (Option.some.inj e)
    exact .inl (Rep.mono x h)
  | slot i =>
    have e2 : (match s2.env[i]? with
      | some (some (.sh d)) => some d
      | some (some (.ow d)) => some d
      | some (some .dcl) => s2.dl.map fun dl => .list (dl.cells.map PyData.int)
      | _ => none) = some d := e
    cases q : s2.env[i]? with
    | none => rw [q] at e2; cases e2
    | some c =>
      rw [q] at e2
      cases c with
      | none => cases e2
      | some c =>
        obtain ⟨v', e', r⟩ := R.at_ _ _ q
        rw [show σ[i]? = some (some v) from h] at e'
        cases e'
        cases c with
        | sh d' => cases e2; exact .inl r
        | ow d' =>
          cases e2
          obtain ⟨a, rfl, _, _, r⟩ := r
          exact .inr ⟨a, rfl, r⟩
        | deal => cases e2
        | dcl =>
          have hd := R.deal
          cases hdl : s2.dl with
          | none => rw [hdl] at e2; cases e2
          | some dl =>
            rw [hdl] at e2 hd
            cases e2
            obtain ⟨a, c, e3, _, _, h2, _, _⟩ := hd
            obtain ⟨x, y, e4, rfl⟩ := r
            rw [e3] at e4
            cases e4
            exact .inr ⟨c, rfl, _, h2, RepA.of_ints⟩
        | scr ns => cases e2
theorem outO_bind2 {g : D → D → Option RV} {x y : Opd} {P : Out RV → Prop} (h : P (lift2 g x y s)) (hs : ¬ P .stuck) : ∃ d e rv, x.get s = some d ∧ y.get s = some e ∧ g d e = some rv ∧ P (.ok rv s) := by
  unfold lift2 at h
  cases q1 : x.get s with
  | none => rw [q1] at h; exact absurd h hs
  | some d =>
    cases q2 : y.get s with
    | none => rw [q1, q2] at h; exact absurd h hs
    | some e =>
      rw [q1, q2] at h
      have h' : P (outO (g d e) s) := h
      cases q3 : g d e with
      | none => rw [q3] at h'; exact absurd h' hs
      | some rv => rw [q3] at h'; exact ⟨d, e, rv, rfl, rfl, q3, h'⟩
end

section
variable {X : Cx} {dA : DA} {W : WX} {fa fb fc : Sto → Out Opd} {f : Sto → Out RV} {a b c e : Expr} {pos : Pos}
/-- an operand that is no name -/
theorem r_opd (ha : PE X e (TEof X dA W f)) : PE X e (TOof X dA W fun s => (f s).bind fun rv s' => .ok (.dat rv.dat) s') :=
  ha.mono fun σ H Q ⟨F, s, R, h⟩ => ⟨F, s, R, by
    revert h
    show PostG X dA W σ s F H (fun o v F' => ORep X.KW F' σ v o) Q ((f s).bind _) → _
    cases f s with
    | stuck => exact fun h => h
    | exc c s' => exact fun h => h
    | ok rv s' =>
      intro h v F' H' R' x' r
      obtain ⟨F2, R2, x2, r2, _⟩ := r.freeze R R' x'
      exact h v F2 H' R2 x2 r2⟩
theorem r_name {i : Nat} (h : PE X e (tVar i)) {C : Cal} : PE X e (TEof X dA W (evE C (.v i))) :=
  h.mono fun σ H Q ⟨F, s, R, h⟩ => by
    show ∃ v, σ[i]? = some (some v) ∧ Q v H
    have h' : PostE X dA W σ s F H (fun _ => Q) (match s.env[i]? with
      | some (some (.sh d)) => .ok (.sh d) s
      | some (some (.ow d)) => .ok (.sh d) (s.set i (.sh d))
      | _ => .stuck) := h
    split at h'
    · rename_i d q
      obtain ⟨v, e, r⟩ := R.at_ _ _ q
      exact ⟨v, e, h' v F H R Ext.refl r⟩
    · rename_i d q
      obtain ⟨F', v, e, r, R', x'⟩ := R.freezeSlot q
      exact ⟨v, e, h' v F' H R' x' r⟩
    · exact h'.elim
theorem Opd.slot_some {K : KW} {F H : Hp} {σ : SS} {s : Sto} {i : Nat} (R : Rel K dA F H σ s) (h : ((Opd.slot i).get s).isSome = true) : ∃ v, σ[i]? = some (some v) := by
  obtain ⟨d, e⟩ := Option.isSome_iff_exists.mp h
  have e2 : (match s.env[i]? with
      | some (some (.sh d)) => some d
      | some (some (.ow d)) => some d
      | some (some .dcl) => s.dl.map fun dl => .list (dl.cells.map PyData.int)
      | _ => none) = some d := e
  cases q : s.env[i]? with
  | none => rw [q] at e2; cases e2
  | some c =>
    cases c with
    | none => rw [q] at e2; cases e2
    | some c =>
      obtain ⟨v', e', r⟩ := R.at_ _ _ q
      exact ⟨v', e'⟩
theorem r_nameO {i : Nat} (h : PE X e (tVar i)) {r : Sto → Out RV} : PE X e (TOof X dA W fun s => opd (.v i) (r s) s) :=
  h.mono fun σ H Q ⟨F, s, R, h⟩ => by
    show ∃ v, σ[i]? = some (some v) ∧ Q v H
    have h' : PostG X dA W σ s F H (fun o v F' => ORep X.KW F' σ v o) Q (if ((Opd.slot i).get s).isSome then .ok (.slot i) s else .stuck) := h
    split at h'
    · rename_i c
      obtain ⟨v, e⟩ := Opd.slot_some R c
      exact ⟨v, e, h' v F H R Ext.refl e⟩
    · exact h'.elim
theorem liftO {r : L2.R2} {g : D → D → Option RV} {F1 F2 H2 : Hp} {σ : SS} {s2 : Sto} {v w : V} {x y : Opd} {Q : VK}
    (hr : ∀ (F H : Hp) (x y : V) (d e : D) (rv : RV) (Q : VK), Same F H → BRep X.KW F H x d → BRep X.KW F H y e → g d e = some rv → (∀ v F' H', NewF F H F' H' → RRep X.KW H F' H' v rv → Q v H') → r x y H Q)
    (R2 : Rel X.KW dA F2 H2 σ s2) (fs : Same F1 F2) (g1 : ORep X.KW F1 σ v x) (g2 : ORep X.KW F2 σ w y) (h : PostE X dA W σ s2 F2 H2 (fun _ => Q) (lift2 g x y s2)) : r v w H2 Q := by
  obtain ⟨d, e, rv, e1, e2, e3, h3⟩ := outO_bind2 (P := fun o => PostE X dA W σ s2 F2 H2 (fun _ => Q) o) h (fun z => z)
  exact hr F2 H2 v w d e rv Q R2.sub (g1.brep R2 fs e1) (g2.brep R2 same_refl e2) e3 (PostE.fin R2 h3)
theorem r_bin {op : Operator} {g : D → D → Option RV} (ho : OpOk X (binaryOp op) g) (ha : PE X a (TOof X dA W fa)) (hb : PE X b (TOof X dA W fb)) :
    PE X (.BinOp a op b pos) (TEof X dA W fun s => (fa s).bind fun x s1 => (fb s1).bind fun y s2 => lift2 g x y s2) := by
  obtain ⟨r, h1, h2⟩ := ho
  exact (pe_op h1 ha hb).mono fun σ H Q ⟨F, s, R, h⟩ => ⟨F, s, R, PostG.bind h fun x s1 v F1 H1 _ R1 x1 g1 h => ⟨F1, s1, R1, PostG.bind h fun y s2 w F2 H2 _ R2 x2 g2 h => liftO h2 R2 x2.fs g1 g2 h⟩⟩
theorem r_cmp {op : CmpOp} {g : D → D → Option RV} (ho : OpOk X (compareOp op) g) (ha : PE X a (TOof X dA W fa)) (hb : PE X b (TOof X dA W fb)) (hm : behindInMarks op b = false) :
    PE X (.Compare a [op] [b] pos) (TEof X dA W fun s => (fa s).bind fun x s1 => (fb s1).bind fun y s2 => lift2 g x y s2) := by
  obtain ⟨r, h1, h2⟩ := ho
  exact (pe_cmpR h1 ha hb hm).mono fun σ H Q ⟨F, s, R, h⟩ => ⟨F, s, R, PostG.bind h fun x s1 v F1 H1 _ R1 x1 g1 h => ⟨F1, s1, R1, PostG.bind h fun y s2 w F2 H2 _ R2 x2 g2 h => liftO h2 R2 x2.fs g1 g2 h⟩⟩
theorem r_ix {g : D → D → Option RV} (ho : IxOk X g) (ha : PE X a (TOof X dA W fa)) (hb : PE X b (TOof X dA W fb)) (hs : PlainIx b) :
    PE X (.Subscript a b pos) (TEof X dA W fun s => (fa s).bind fun x s1 => (fb s1).bind fun y s2 => lift2 g x y s2) := by
  obtain ⟨r, h1, h2⟩ := ho
  exact (pe_ix h1 ha hb hs).mono fun σ H Q ⟨F, s, R, h⟩ => ⟨F, s, R, PostG.bind h fun x s1 v F1 H1 _ R1 x1 g1 h => ⟨F1, s1, R1, PostG.bind h fun y s2 w F2 H2 _ R2 x2 g2 h => liftO h2 R2 x2.fs g1 g2 h⟩⟩

/-! ### constants, displays -/
theorem r_const {v : V} {d : D} {c : Ex} (h : PE X e (tC v)) (r : ∀ F, Rep X.KW F v d) : PE X e (TEof X dA W fun s => .ok (.sh d) s) :=
  h.mono fun σ H Q ⟨F, s, R, h⟩ => h v F H R Ext.refl (r F)
theorem r_anil {C : Cal} : PA X [] (TAof X dA W (evEs C .nil)) :=
  pa_nil.mono fun σ H Q ⟨F, s, R, h⟩ => h [] F H R Ext.refl .nil
/-- an expression whose result is kept -/
theorem PostE.keep {F H : Hp} {σ : SS} {s : Sto} {Q : V → Hp → Prop} {o : Out RV} (R : Rel X.KW dA F H σ s) (h : PostG X dA W σ s F H (fun (rv : RV) v F' => Rep X.KW F' v rv.dat) Q o) : PostE X dA W σ s F H (fun _ => Q) o := by
  revert h
  cases o with
  | stuck => exact fun h => h
  | exc c s' => exact fun h => h
  | ok rv s' =>
    intro h v F' H' R' x' r
    obtain ⟨F2, R2, x2, r2, _⟩ := r.freeze R R' x'
    exact h v F2 H' R2 x2 r2
theorem r_acons {es : List Expr} {g : Sto → Out (List D)} (ha : PE X e (TEof X dA W f)) (hb : PA X es (TAof X dA W g)) (hs : starEach (e :: es) X.env = (false, eval e X.env) :: starEach es X.env := by rfl) :
    PA X (e :: es) (TAof X dA W fun s => (f s).bind fun r s1 => (g s1).bind fun ds s2 => .ok (r.dat :: ds) s2) :=
  (pa_cons ha hb hs).mono fun σ H Q ⟨F, s, R, h⟩ => ⟨F, s, R, PostE.keep R (PostG.bindG' h fun r s1 v F1 H1 _ R1 x1 g1 h =>
    ⟨F1, s1, R1, PostG.bindG' h fun ds s2 vs F2 H2 _ R2 x2 g2 h => h (v :: vs) F2 H2 R2 Ext.refl (.cons (Rep.mono x2.fs g1) g2)⟩)⟩
theorem r_tup {es : List Expr} {n : Nat} {g : Sto → Out (List D)} (ha : PA X es (TAof X dA W g)) : PE X (.Tuple es n pos) (TEof X dA W fun s => (g s).bind fun ds s' => if ds.length ≤ sizeLine then .ok (.sh (.tuple ds)) s' else .stuck) :=
  (pe_tup ha).mono fun σ H Q ⟨F, s, R, h⟩ => ⟨F, s, R, PostG.bind h fun ds s1 vs F1 H1 _ R1 x1 g1 h => by
    split at h
    · rename_i c
      refine ⟨by rw [g1.length]; exact c, fun p hp => ?_⟩
      exact newTup R1.sub g1 (PostE.fin R1 h) p hp
    · exact h.elim⟩
theorem r_lst {es : List Expr} {g : Sto → Out (List D)} (ha : PA X es (TAof X dA W g)) : PE X (.List es pos) (TEof X dA W fun s => (g s).bind fun ds s' => if ds.length ≤ sizeLine then .ok (.fr (.list ds)) s' else .stuck) :=
  (pe_lst ha).mono fun σ H Q ⟨F, s, R, h⟩ => ⟨F, s, R, PostG.bind h fun ds s1 vs F1 H1 _ R1 x1 g1 h => by
    split at h
    · rename_i c
      refine ⟨by rw [g1.length]; exact c, fun p hp => ?_⟩
      exact newLst R1.sub g1 (PostE.fin R1 h) p hp
    · exact h.elim⟩
/-! ### chains, and, or, not -/
theorem r_chn {op op' : CmpOp} {g g' : D → D → Option RV} (ho : OpOk X (compareOp op) g) (ho' : OpOk X (compareOp op') g') (hg : ∀ d e rv, g d e = some rv → ∃ b, rv = .sh (.bool b))
    (ha : PE X a (TOof X dA W fa)) (hb : PE X b (TOof X dA W fb)) (hc : PE X c (TOof X dA W fc)) (hm : lastMarks [op, op'] [b, c] = false) :
    PE X (.Compare a [op, op'] [b, c] pos) (TEof X dA W fun s => (fa s).bind fun x s1 => (fb s1).bind fun y s2 => (lift2 g x y s2).bind fun r s3 => match r.dat with
        | .bool true => (fc s3).bind fun z s4 => lift2 g' y z s4
        | .bool false => .ok (.sh (.bool false)) s3
        | _ => .stuck) := by
  obtain ⟨r, h1, h2⟩ := ho
  obtain ⟨r', h1', h2'⟩ := ho'
  refine (pe_chain h1 h1' ha hb hc hm).mono fun σ H Q ⟨F, s, R, h⟩ => ⟨F, s, R, PostG.bind h fun x s1 v F1 H1 _ R1 x1 g1 h => ⟨F1, s1, R1, PostG.bind h fun y s2 w F2 H2 _ R2 x2 g2 h => ?_⟩⟩
  have h3 : PostG X dA W σ s2 F2 H2 (fun (rv : RV) (v : V) F' => ∃ b, rv = .sh (.bool b) ∧ v = .bl b) (fun z H3 => ∃ k, z = .bl k ∧ (if k = true then TOof X dA W fc σ H3 (fun w' H4 => r' w w' H4 Q) else Q (.bl false) H3)) (lift2 g x y s2) :=
    PostG.bind h fun rv s3 z F3 H3 _ R3 x3 g3 h => by
      obtain ⟨b, rfl, rfl⟩ := g3
      refine ⟨b, rfl, ?_⟩
      cases b with
      | false => exact h (.bl false) F3 H3 R3 Ext.refl (.bl _)
      | true =>
        rw [if_pos rfl]
        exact ⟨F3, s3, R3, PostG.bind h fun z s4 w' F4 H4 _ R4 x4 g4 h => liftO h2' R4 (Same.trans' x3.fs x4.fs) g2 g4 h⟩
  obtain ⟨d, e, rv, e1, e2, e3, h4⟩ := outO_bind2 (P := fun o => PostG X dA W σ s2 F2 H2 (fun (rv : RV) (v : V) F' => ∃ b, rv = .sh (.bool b) ∧ v = .bl b) _ o) h3 (fun z => z)
  obtain ⟨b, rfl⟩ := hg d e rv e3
  refine h2 F2 H2 v w d e _ _ R2.sub (g1.brep R2 x2.fs e1) (g2.brep R2 same_refl e2) e3 fun v' F' H' n r => ?_
  cases r
  exact h4 (.bl b) F' H' (R2.newF n) (Ext.ofNew n) ⟨b, rfl, rfl⟩
theorem r_and {rest : List Expr} {g : Sto → Out RV} (ha : PE X a (TEof X dA W f)) (hb : PE X (.BoolOp .And (b :: rest) pos) (TEof X dA W g)) :
    PE X (.BoolOp .And (a :: b :: rest) pos) (TEof X dA W fun s => (f s).bind fun r s1 => match truD r.dat with
    | some true => g s1
    | some false => .ok (.sh r.dat) s1
    | none => .stuck) :=
  (pe_andT ha hb).mono fun σ H Q ⟨F, s, R, h⟩ => ⟨F, s, R, PostE.keep R (PostG.bind h fun r s1 v F1 H1 _ R1 x1 g1 h => by
    cases e : truD r.dat with
    | none => rw [e] at h; exact h.elim
    | some k =>
      rw [e] at h
      refine ⟨k, tru_of R1.sub (.inl g1) e, ?_⟩
      cases k with
      | true => exact ⟨F1, s1, R1, h⟩
      | false => exact h v F1 H1 R1 Ext.refl g1)⟩
theorem r_or {rest : List Expr} {g : Sto → Out RV} (ha : PE X a (TEof X dA W f)) (hb : PE X (.BoolOp .Or (b :: rest) pos) (TEof X dA W g)) :
    PE X (.BoolOp .Or (a :: b :: rest) pos) (TEof X dA W fun s => (f s).bind fun r s1 => match truD r.dat with
    | some false => g s1
    | some true => .ok (.sh r.dat) s1
    | none => .stuck) :=
  (pe_orT ha hb).mono fun σ H Q ⟨F, s, R, h⟩ => ⟨F, s, R, PostE.keep R (PostG.bind h fun r s1 v F1 H1 _ R1 x1 g1 h => by
    cases e : truD r.dat with
    | none => rw [e] at h; exact h.elim
    | some k =>
      rw [e] at h
      refine ⟨k, tru_of R1.sub (.inl g1) e, ?_⟩
      cases k with
      | true => exact h v F1 H1 R1 Ext.refl g1
      | false => exact ⟨F1, s1, R1, h⟩)⟩
theorem opd_tru {K : KW} {F1 F2 H2 : Hp} {σ : SS} {s2 : Sto} {x : Opd} {v : V} {b : Bool} (R : Rel K dA F2 H2 σ s2) (fs : Same F1 F2) (g : ORep K F1 σ v x)
    (h : (x.get s2).bind truD = some b) : TruV K v H2 b := by
  cases e : x.get s2 with
  | none => rw [e] at h; cases h
  | some d =>
    rw [e] at h
    exact tru_of R.sub (g.brep R fs e) h
theorem r_not (ha : PE X a (TOof X dA W fa)) : PE X (.UnaryOp .Not a pos) (TEof X dA W fun s => (fa s).bind fun x s1 => outO (((x.get s1).bind truD).map fun b => .sh (.bool (!b))) s1) :=
  (pe_notT ha).mono fun σ H Q ⟨F, s, R, h⟩ => ⟨F, s, R, PostG.bind h fun x s1 v F1 H1 _ R1 x1 g1 h => by
    cases e : (x.get s1).bind truD with
    | none => rw [e] at h; exact h.elim
    | some b =>
      rw [e] at h
      exact ⟨b, opd_tru R1 same_refl g1 e, h (.bl (!b)) F1 H1 R1 Ext.refl (.bl _)⟩⟩
/-! ### tests -/
variable {ft gt : Sto → Out Bool}
theorem r_tst (ha : PE X a (TOof X dA W fa)) (he : ∀ whole, isTrue a X.env whole = (do let v ← whole; standAt a.pos; holding [v] (truthy v))) :
    PT X a (TTof X dA W fun s => (fa s).bind fun x s1 => outO ((x.get s1).bind truD) s1) :=
  (pt_truth ha he).mono fun σ H Q ⟨F, s, R, h⟩ => ⟨F, s, R, PostG.bindG' h fun x s1 v F1 H1 _ R1 x1 g1 h => by
    cases e : (x.get s1).bind truD with
    | none => rw [e] at h; exact h.elim
    | some b =>
      rw [e] at h
      exact ⟨b, opd_tru R1 same_refl g1 e, h b F1 H1 R1 Ext.refl rfl⟩⟩
theorem r_tcmp {op : CmpOp} {g : D → D → Option RV} (ho : OpOk X (compareOp op) g) (hg : ∀ d e rv, g d e = some rv → ∃ b, rv = .sh (.bool b)) (ha : PE X a (TOof X dA W fa)) (hb : PE X b (TOof X dA W fb)) (hm : behindInMarks op b = false) :
    PT X (.Compare a [op] [b] pos) (TTof X dA W fun s => (((fa s).bind fun x s1 => (fb s1).bind fun y s2 => lift2 g x y s2).bind fun rv s' => Out.ok (Opd.dat rv.dat) s').bind fun x s1 => outO ((x.get s1).bind truD) s1) := by
  obtain ⟨r, h1, h2⟩ := ho
  refine (pt_cmpR h1 ha hb hm).mono fun σ H Q ⟨F, s, R, h⟩ => ⟨F, s, R, ?_⟩
  -- the answer is a bool
  have h0 : PostE X dA W σ s F H (fun _ => fun x H' => ∃ k, x = V.bl k ∧ Q k H') ((fa s).bind fun x s1 => (fb s1).bind fun y s2 => lift2 g x y s2) := by
    revert h
    cases eo : ((fa s).bind fun x s1 => (fb s1).bind fun y s2 => lift2 g x y s2) with
    | stuck => intro h; simp only [eo] at h; exact h
    | exc c s' => intro h; simp only [eo] at h; exact h
    | ok rv s' =>
      intro h
      simp only [eo] at h
      -- rv comes from lift2
      have hb : ∃ b, rv = .sh (.bool b) := by
        cases e1 : fa s with
        | stuck => rw [e1] at eo; cases eo
        | exc c s' => rw [e1] at eo; cases eo
        | ok x s1 =>
          rw [e1] at eo
          cases e2 : fb s1 with
          | stuck => simp only [Out.bind, e2] at eo; cases eo
          | exc c s' => simp only [Out.bind, e2] at eo; cases eo
          | ok y s2 =>
            simp only [Out.bind, e2] at eo
            obtain ⟨d, e, rv', q1, q2, q3, q4⟩ := outO_bind2 (P := fun o => o = Out.ok rv s') eo (fun z => nomatch z)
            cases q4
            exact hg d e _ q3
      obtain ⟨b, rfl⟩ := hb
      intro v F' H' R' x' r
      cases r
      have h' : PostG X dA W σ s F H (fun (b c : Bool) _ => c = b) Q (.ok b s') := h
      exact ⟨b, rfl, h' b F' H' R' x' rfl⟩
  exact PostG.bind h0 fun x s1 v F1 H1 _ R1 x1 g1 h => ⟨F1, s1, R1, PostG.bind h fun y s2 w F2 H2 _ R2 x2 g2 h => liftO h2 R2 x2.fs g1 g2 h⟩
theorem r_tand {rest : List Expr} (ha : PT X a (TTof X dA W ft)) (hb : PW X (.BoolOp .And (b :: rest) pos) (TTof X dA W gt)) : PW X (.BoolOp .And (a :: b :: rest) pos) (TTof X dA W fun s => (ft s).bind fun t s1 => if t then gt s1 else .ok false s1) :=
  (pw_and ha hb).mono fun σ H Q ⟨F, s, R, h⟩ => ⟨F, s, R, PostG.bindG' h fun t s1 c F1 H1 _ R1 x1 g1 h => by
    subst g1
    cases c with
    | true => rw [if_pos rfl] at h ⊢; exact ⟨F1, s1, R1, h⟩
    | false => rw [if_neg Bool.false_ne_true] at h ⊢; exact h false F1 H1 R1 Ext.refl rfl⟩
theorem r_tor {rest : List Expr} (ha : PT X a (TTof X dA W ft)) (hb : PW X (.BoolOp .Or (b :: rest) pos) (TTof X dA W gt)) : PW X (.BoolOp .Or (a :: b :: rest) pos) (TTof X dA W fun s => (ft s).bind fun t s1 => if t then .ok true s1 else gt s1) :=
  (pw_or ha hb).mono fun σ H Q ⟨F, s, R, h⟩ => ⟨F, s, R, PostG.bindG' h fun t s1 c F1 H1 _ R1 x1 g1 h => by
    subst g1
    cases c with
    | true => rw [if_pos rfl] at h ⊢; exact h true F1 H1 R1 Ext.refl rfl
    | false => rw [if_neg Bool.false_ne_true] at h ⊢; exact ⟨F1, s1, R1, h⟩⟩
theorem r_tnot (ha : PT X a (TTof X dA W ft)) : PT X (.UnaryOp .Not a pos) (TTof X dA W fun s => (ft s).bind fun t s1 => .ok (!t) s1) :=
  (pt_not ha).mono fun σ H Q ⟨F, s, R, h⟩ => ⟨F, s, R, PostG.bindG' h fun t s1 c F1 H1 _ R1 x1 g1 h => by
    subst g1
    exact h (!c) F1 H1 R1 Ext.refl rfl⟩
theorem r_ife {g : Sto → Out RV} (hc : PT X c (TTof X dA W ft)) (ha : PE X a (TEof X dA W f)) (hb : PE X b (TEof X dA W g)) : PE X (.IfExp c a b pos) (TEof X dA W fun s => (ft s).bind fun t s1 => if t then f s1 else g s1) :=
  (pe_ifExp hc ha hb).mono fun σ H Q ⟨F, s, R, h⟩ => ⟨F, s, R, PostG.bind h fun t s1 c F1 H1 _ R1 x1 g1 h => by
    subst g1
    cases c with
    | true => rw [if_pos rfl] at h ⊢; exact ⟨F1, s1, R1, h⟩
    | false => rw [if_neg Bool.false_ne_true] at h ⊢; exact ⟨F1, s1, R1, h⟩⟩
/-! ### one operand -/
theorem lift1_post {g : D → Option RV} {F H : Hp} {σ : SS} {s : Sto} {x : Opd} {Q : VK} (h : PostE X dA W σ s F H (fun _ => Q) (lift1 g x s)) : ∃ d rv, x.get s = some d ∧ g d = some rv ∧ PostE X dA W σ s F H (fun _ => Q) (.ok rv s) := by
  unfold lift1 at h
  cases e : x.get s with
  | none => rw [e] at h; exact h.elim
  | some d =>
    rw [e] at h
    have h' : PostE X dA W σ s F H (fun _ => Q) (outO (g d) s) := h
    cases e2 : g d with
    | none => rw [e2] at h'; exact h'.elim
    | some rv => rw [e2] at h'; exact ⟨d, rv, rfl, e2, h'⟩
theorem r_neg (ha : PE X a (TOof X dA W fa)) : PE X (.UnaryOp .USub a pos) (TEof X dA W fun s => (fa s).bind fun x s1 => lift1 negG x s1) :=
  (pe_un un_neg ha).mono fun σ H Q ⟨F, s, R, h⟩ => ⟨F, s, R, PostG.bind h fun x s1 v F1 H1 _ R1 x1 g1 h => by
    obtain ⟨d, rv, e1, e2, h⟩ := lift1_post h
    cases d <;> simp only [negG] at e2 <;> try (cases e2; done)
    rename_i i
    cases e2
    exact ⟨i, (g1.brep R1 same_refl e1).int, h (.int (-i)) F1 H1 R1 Ext.refl (.int _)⟩⟩
end
end WV
namespace WV
open PySem PySem.Spec PyProof.Rows L2
section
variable {X : Cx} {dA : DA} {W : WX} {fa fb fc : Sto → Out Opd} {f g : Sto → Out RV} {ft : Sto → Out Bool} {a b c e : Expr} {pos : Pos}
/-! ### slices -/
def TXof (X : Cx) (dA : DA) (W : WX) (f : Sto → Out (Option Int)) : TO := fun σ H Q => ∃ F s, Rel X.KW dA F H σ s ∧ PostG X dA W σ s F H (fun o o' _ => o' = o) Q (f s)
theorem _root_.L2.PO.mono {X : Cx} {e : Option Expr} {t t' : TO} (h : PO X e t) (i : ∀ σ H Q, t' σ H Q → t σ H Q) : PO X e t' := ⟨fun pins s σ H Q I w => h.run pins s σ H Q I (i σ H Q w)⟩
theorem r_pno {C : Cal} : PO X none (TXof X dA W (evX C .no)) := po_none.mono fun σ H Q ⟨F, s, R, h⟩ => h none F H R Ext.refl rfl
theorem r_pso (ha : PE X e (TEof X dA W f)) : PO X (some e) (TXof X dA W fun s => (f s).bind fun r s1 => match r.dat with
    | .int i => .ok (some i) s1
    | _ => .stuck) :=
  (po_some ha).mono fun σ H Q ⟨F, s, R, h⟩ => ⟨F, s, R, PostE.keep R (PostG.bindG' h fun r s1 v F1 H1 _ R1 x1 g1 h => by
    split at h
    · rename_i i q
      rw [q] at g1
      cases g1
      exact ⟨i, rfl, h (some i) F1 H1 R1 Ext.refl rfl⟩
    · exact h.elim)⟩
def SlOk (X : Cx) (g : Option Int → Option Int → D → Option RV) : Prop :=
  ∃ r, SlR X r ∧ ∀ (F H : Hp) (x : V) (lo hi : Option Int) (d : D) (rv : RV) (Q : VK), Same F H → BRep X.KW F H x d → g lo hi d = some rv → (∀ v F' H', NewF F H F' H' → RRep X.KW H F' H' v rv → Q v H') → r x lo hi H Q
theorem RepA.cut {K : KW} {F : Hp} {vs : List V} {ds : List D} (r : RepA K F vs ds) (lo hi : Option Int) : RepA K F (cutV vs lo hi) (cutD ds lo hi) := by
  unfold cutV cutD
  rw [r.length]
  exact RepA.take _ (RepA.drop _ r)
theorem sl_ok {X : Cx} : SlOk X slcG := by
  refine ⟨_, sl_tupA.or sl_list, fun F H x lo hi d rv Q s bx hg q => ?_⟩
  cases d <;> simp only [slcG] at hg <;> try (cases hg; done)
  · rename_i ds
    cases hg
    obtain ⟨a, vs, rfl, h1, r1⟩ := bx.lst s
    exact .inr ⟨a, vs, rfl, SqL.of h1, fun p hp => newLst s (r1.cut lo hi) q p hp⟩
  · rename_i ds
    cases hg
    have bx' := bx
    obtain ⟨a, vs, rfl, h1, r1⟩ := bx.tup s
    refine .inl ⟨a, vs, rfl, h1, fun w => ?_, fun _ p hp => newTup s (r1.cut lo hi) q p hp⟩
    have e : cutD ds lo hi = ds := by
      unfold cutD
      rw [r1.length] at w
      rw [w.1, w.2, List.drop_zero, Nat.sub_zero, List.take_length]
    rw [e] at q
    rcases bx' with bx' | ⟨_, _, z⟩
    · exact newSh s bx' q
    · exact z.elim
theorem r_slc {gs : Option Int → Option Int → D → Option RV} {lo hi : Option Expr} {fl fh : Sto → Out (Option Int)} {p2 : Pos} (ho : SlOk X gs) (ha : PE X a (TOof X dA W fa)) (hl : PO X lo (TXof X dA W fl)) (hh : PO X hi (TXof X dA W fh)) :
    PE X (.Subscript a (.Slice lo hi none p2) pos) (TEof X dA W fun s => (fa s).bind fun x s1 => (fl s1).bind fun l s2 => (fh s2).bind fun h s3 => outO ((x.get s3).bind (gs l h)) s3) := by
  obtain ⟨r, h1, h2⟩ := ho
  refine (pe_slice h1 ha hl hh).mono fun σ H Q ⟨F, s, R, h⟩ => ⟨F, s, R, PostG.bind h fun x s1 v F1 H1 _ R1 x1 g1 h => ⟨F1, s1, R1, PostG.bind h fun l s2 l' F2 H2 _ R2 x2 g2 h => ⟨F2, s2, R2, PostG.bind h fun hh s3 hw F3 H3 _ R3 x3 g3 h => ?_⟩⟩⟩
  subst g2
  subst g3
  cases e1 : x.get s3 with
  | none => rw [e1] at h; exact h.elim
  | some d =>
    rw [e1] at h
    have h' : PostE X dA W σ s3 F3 H3 (fun _ => Q) (outO (gs l' hw d) s3) := h
    cases e2 : gs l' hw d with
    | none => rw [e2] at h'; exact h'.elim
    | some rv =>
      rw [e2] at h'
      exact h2 F3 H3 v l' hw d rv Q R3.sub (g1.brep R3 (Same.trans' x2.fs x3.fs) e1) e2 (PostE.fin R3 h')
/-! ### built-ins of one argument -/
def B1Ok (X : Cx) (fv : Value) (g : D → Option RV) : Prop :=
  ∃ r, CallR X fv r ∧ ∀ (F H : Hp) (x : V) (d : D) (rv : RV) (Q : VK), Same F H → BRep X.KW F H x d → g d = some rv → (∀ v F' H', NewF F H F' H' → RRep X.KW H F' H' v rv → Q v H') → r [x] H Q
theorem r_b1 {gb : D → Option RV} {id : String} {x : Str} {p : Pos} (ho : B1Ok X (.builtin id) gb) (hg : Gl X x) (hm : X.mg x = none) (hv : bootBuiltins x = some (.builtin id)) (hn : x ≠ "__name__") (hdb : (x == ("__debug__" : Str)) = false)
    (ha : PE X a (TOof X dA W fa)) (hs : starEach [a] X.env = (false, eval a X.env) :: starEach [] X.env) : PE X (.Call (.Name x p) [a] [] pos) (TEof X dA W fun s => (fa s).bind fun x s1 => lift1 gb x s1) := by
  obtain ⟨r, h1, h2⟩ := ho
  refine (pe_callB h1 hg hm hv (pa_cons ha pa_nil hs) hn hdb hs).mono fun σ H Q ⟨F, s, R, h⟩ => ⟨F, s, R, PostG.bind h fun x s1 v F1 H1 _ R1 x1 g1 h => ?_⟩
  obtain ⟨d, rv, e1, e2, h⟩ := lift1_post h
  exact h2 F1 H1 v d rv Q R1.sub (g1.brep R1 same_refl e1) e2 (PostE.fin R1 h)
theorem r_b1t {gb : D → Option RV} {T : String} {x : Str} {p : Pos} (ho : B1Ok X (.type T) gb) (hg : Gl X x) (hm : X.mg x = none) (hv : bootBuiltins x = some (.type T)) (hn : x ≠ "__name__") (hdb : (x == ("__debug__" : Str)) = false)
    (ha : PE X a (TOof X dA W fa)) (hs : starEach [a] X.env = (false, eval a X.env) :: starEach [] X.env) : PE X (.Call (.Name x p) [a] [] pos) (TEof X dA W fun s => (fa s).bind fun x s1 => lift1 gb x s1) := by
  obtain ⟨r, h1, h2⟩ := ho
  refine (pe_callTy h1 hg hm hv (pa_cons ha pa_nil hs) hn hdb hs).mono fun σ H Q ⟨F, s, R, h⟩ => ⟨F, s, R, PostG.bind h fun x s1 v F1 H1 _ R1 x1 g1 h => ?_⟩
  obtain ⟨d, rv, e1, e2, h⟩ := lift1_post h
  exact h2 F1 H1 v d rv Q R1.sub (g1.brep R1 same_refl e1) e2 (PostE.fin R1 h)
theorem len_ok {X : Cx} : B1Ok X (.builtin "len") (biG .len) := by
  refine ⟨_, call_len, fun F H x d rv Q s bx hg q => ?_⟩
  cases d <;> simp only [biG] at hg <;> try (cases hg; done)
  · rename_i z
    split at hg
    · rename_i c
      cases hg
      refine ⟨x, z.length, rfl, ?_, newSh s (.int _) q⟩
      rw [bx.str]
      exact ⟨c, rfl⟩
    · cases hg
  · rename_i ds
    cases hg
    obtain ⟨a, vs, rfl, h1, r1⟩ := bx.lst s
    exact ⟨_, ds.length, rfl, .inl ⟨vs, SqL.of h1, r1.length.symm⟩, newSh s (.int _) q⟩
  · rename_i ds
    cases hg
    obtain ⟨a, vs, rfl, h1, r1⟩ := bx.tup s
    exact ⟨_, ds.length, rfl, .inr ⟨vs, h1, r1.length.symm⟩, newSh s (.int _) q⟩
theorem bools_map : ∀ {ds : List D} {bs : List Bool}, bools ds = some bs → ds = bs.map PyData.bool
  | [], _, h => by cases h; rfl
  | .bool b :: r, bs, h => by
    simp only [bools] at h
    obtain ⟨bs', h1, h2⟩ := Option.map_eq_some_iff.mp h
    subst h2
    rw [bools_map h1]
    rfl
  | .none :: _, _, h => by cases h
  | .int _ :: _, _, h => by cases h
  | .str _ :: _, _, h => by cases h
  | .list _ :: _, _, h => by cases h
  | .tuple _ :: _, _, h => by cases h
  | .dict _ :: _, _, h => by cases h
theorem intsD_map : ∀ {ds : List D} {bs : List Int}, intsD ds = some bs → ds = bs.map PyData.int
  | [], _, h => by cases h; rfl
  | .int b :: r, bs, h => by
    simp only [intsD] at h
    obtain ⟨bs', h1, h2⟩ := Option.map_eq_some_iff.mp h
    subst h2
    rw [intsD_map h1]
    rfl
  | .none :: _, _, h => by cases h
  | .bool _ :: _, _, h => by cases h
  | .str _ :: _, _, h => by cases h
  | .list _ :: _, _, h => by cases h
  | .tuple _ :: _, _, h => by cases h
  | .dict _ :: _, _, h => by cases h
theorem all_ok {X : Cx} (hc : X.calm = true) : B1Ok X (.builtin "all") (biG .all) := by
  refine ⟨_, cr_all hc, fun F H x d rv Q s bx hg q => ?_⟩
  cases d <;> simp only [biG] at hg <;> try (cases hg; done)
  rename_i ds
  obtain ⟨bs, h1, h2⟩ := Option.map_eq_some_iff.mp hg
  subst h2
  obtain ⟨a, vs, rfl, h3, r1⟩ := bx.lst s
  rw [bools_map h1] at r1
  exact ⟨a, bs, rfl, by rw [← r1.bls]; exact SqL.of h3, newSh s (.bl _) q⟩
theorem any_ok {X : Cx} (hc : X.calm = true) : B1Ok X (.builtin "any") (biG .any) := by
  refine ⟨_, cr_any hc, fun F H x d rv Q s bx hg q => ?_⟩
  cases d <;> simp only [biG] at hg <;> try (cases hg; done)
  rename_i ds
  obtain ⟨bs, h1, h2⟩ := Option.map_eq_some_iff.mp hg
  subst h2
  obtain ⟨a, vs, rfl, h3, r1⟩ := bx.lst s
  rw [bools_map h1] at r1
  exact ⟨a, bs, rfl, by rw [← r1.bls]; exact SqL.of h3, newSh s (.bl _) q⟩
theorem sum_ok {X : Cx} (hc : X.calm = true) : B1Ok X (.builtin "sum") (biG .sum) := by
  refine ⟨_, cr_sum hc, fun F H x d rv Q s bx hg q => ?_⟩
  cases d <;> simp only [biG] at hg <;> try (cases hg; done)
  rename_i ds
  obtain ⟨bs, h1, h2⟩ := Option.map_eq_some_iff.mp hg
  subst h2
  obtain ⟨a, vs, rfl, h3, r1⟩ := bx.lst s
  rw [intsD_map h1] at r1
  exact ⟨a, bs, rfl, by rw [← r1.ints]; exact SqL.of h3, newSh s (.int _) q⟩
theorem tup_ok {X : Cx} : B1Ok X (.type "tuple") (biG .tup) := by
  refine ⟨_, call_tuple_of, fun F H x d rv Q s bx hg q => ?_⟩
  cases d <;> simp only [biG] at hg <;> try (cases hg; done)
  · rename_i ds
    cases hg
    obtain ⟨a, vs, rfl, h1, r1⟩ := bx.lst s
    exact ⟨a, vs, rfl, .inl ⟨SqL.of h1, fun p hp => newTup s r1 q p hp⟩⟩
  · rename_i ds
    cases hg
    have bx' := bx
    obtain ⟨a, vs, rfl, h1, r1⟩ := bx.tup s
    refine ⟨a, vs, rfl, .inr ⟨h1, ?_⟩⟩
    rcases bx' with bx' | ⟨_, _, z⟩
    · exact newSh s bx' q
    · exact z.elim
theorem lst_ok {X : Cx} : B1Ok X (.type "list") (biG .lst) := by
  refine ⟨_, call_list_of, fun F H x d rv Q s bx hg q => ?_⟩
  cases d <;> simp only [biG] at hg <;> try (cases hg; done)
  · rename_i ds
    cases hg
    obtain ⟨a, vs, rfl, h1, r1⟩ := bx.lst s
    exact ⟨a, vs, rfl, .inl (SqL.of h1), fun p hp => newLst s r1 q p hp⟩
  · rename_i ds
    cases hg
    obtain ⟨a, vs, rfl, h1, r1⟩ := bx.tup s
    exact ⟨a, vs, rfl, .inr h1, fun p hp => newLst s r1 q p hp⟩
/-! ### isinstance, min, len of the script -/
def tyN : Ty → String
  | .int => "int"
  | .bool => "bool"
  | .str => "str"
  | .tuple => "tuple"
  | .list => "list"
  | .none => "NoneType"
def dTy : D → String
  | .none => "NoneType"
  | .bool _ => "bool"
  | .int _ => "int"
  | .str _ => "str"
  | .list _ => "list"
  | .tuple _ => "tuple"
  | .dict _ => "dict"
theorem kitB_all : ∀ (t : Ty) (d : D), kitB (dTy d) (tyN t) = some (isTy t d) := by
  intro t d
  cases t <;> cases d <;> (simp only [dTy, tyN, isTy]; decide +kernel)
theorem tyX_of {K : KW} {F H : Hp} {x : V} {d : D} (s : Same F H) (b : BRep K F H x d) : TyX K H x (.type (dTy d)) := by
  cases d with
  | none => rw [b.non]; exact .base .non
  | bool _ => rw [b.bl]; exact .base (.bl _)
  | int _ => rw [b.int]; exact .base (.int _)
  | str _ => rw [b.str]; exact .base (.str _)
  | list ds =>
    obtain ⟨a, vs, rfl, h1, r1⟩ := b.lst s
    exact .base (.lst h1)
  | tuple ds =>
    obtain ⟨a, vs, rfl, h1, r1⟩ := b.tup s
    rcases h1 with (h1 | ⟨o, h1⟩) | ⟨o, its, n, h1, h2, _⟩
    · exact .base (.tup h1)
    · exact .fTuple h1
    · exact .kTuple h1 h2
  | dict kvs =>
    rcases b with b | ⟨a, rfl, ks, vs, e, _, _⟩
    · cases b with
      | dmx h _ _ => exact .base (.dK (s _ _ h))
      | kdc q =>
        obtain ⟨_, ⟨es, n, D⟩, _⟩ := q
        exact .kDict D.at_ rfl
    · exact .base (.dK e)
theorem r_isi {t : Ty} {x y : Str} {p p2 : Pos} (hg : Gl X x) (hm : X.mg x = none) (hv : bootBuiltins x = some (.builtin "isinstance")) (hn : x ≠ "__name__") (hdb : (x == ("__debug__" : Str)) = false)
    (hb : PE X (.Name y p2) (tC (.ty (tyN t)))) (ha : PE X a (TOof X dA W fa)) (hs : starEach [a, .Name y p2] X.env = (false, eval a X.env) :: starEach [.Name y p2] X.env) :
    PE X (.Call (.Name x p) [a, .Name y p2] [] pos) (TEof X dA W fun s => (fa s).bind fun x s1 => lift1 (fun d => some (.sh (.bool (isTy t d)))) x s1) := by
  refine (pe_callB call_isi hg hm hv (pa_cons ha (pa_cons hb pa_nil) hs) hn hdb hs).mono fun σ H Q ⟨F, s, R, h⟩ => ⟨F, s, R, PostG.bind h fun x s1 v F1 H1 _ R1 x1 g1 h => ?_⟩
  obtain ⟨d, rv, e1, e2, h⟩ := lift1_post h
  cases e2
  have b := g1.brep R1 same_refl e1
  exact ⟨v, .ty (tyN t), .type (dTy d), .type (tyN t), isTy t d, rfl, .ty _, tyX_of R1.sub b, kit_ty (kitB_all t d), h (.bl _) F1 H1 R1 Ext.refl (.bl _)⟩
theorem r_min2 {x : Str} {p : Pos} (hc : X.calm = true) (hg : Gl X x) (hm : X.mg x = none) (hv : bootBuiltins x = some (.builtin "min")) (hn : x ≠ "__name__") (hdb : (x == ("__debug__" : Str)) = false)
    (ha : PE X a (TOof X dA W fa)) (hb : PE X b (TOof X dA W fb)) (hs : starEach [a, b] X.env = (false, eval a X.env) :: starEach [b] X.env) (hs2 : starEach [b] X.env = (false, eval b X.env) :: starEach [] X.env) (hpl : (backTo pos (starEach [b] X.env)).any (·.1) = false) :
    PE X (.Call (.Name x p) [a, b] [] pos) (TEof X dA W fun s => (fa s).bind fun x s1 => (fb s1).bind fun y s2 => lift2 minG x y s2) := by
  refine (pe_callB (call_min2 hc) hg hm hv (pa_cons ha (pa_cons hb pa_nil hs2) hs) hn hdb hs hpl).mono fun σ H Q ⟨F, s, R, h⟩ => ⟨F, s, R, PostG.bind h fun x s1 v F1 H1 _ R1 x1 g1 h => ⟨F1, s1, R1, PostG.bind h fun y s2 w F2 H2 _ R2 x2 g2 h => ?_⟩⟩
  obtain ⟨d, e, rv, e1, e2, e3, h3⟩ := outO_bind2 (P := fun o => PostE X dA W σ s2 F2 H2 (fun _ => Q) o) h (fun z => z)
  have b1 := g1.brep R2 x2.fs e1
  have b2 := g2.brep R2 same_refl e2
  cases d <;> cases e <;> simp only [minG, gI] at e3 <;> try (cases e3; done)
  rename_i i j
  cases e3
  exact ⟨i, j, by rw [b1.int, b2.int], h3 (.int _) F2 H2 R2 Ext.refl (.int _)⟩
theorem r_lens {i : Nat} {x y : Str} {p p2 : Pos} {C : Cal} (hg : Gl X x) (hm : X.mg x = none) (hv : bootBuiltins x = some (.builtin "len")) (hn : x ≠ "__name__") (hdb : (x == ("__debug__" : Str)) = false)
    (ha : PE X (.Name y p2) (tVar i)) (hs : starEach [.Name y p2] X.env = (false, eval (.Name y p2) X.env) :: starEach [] X.env) : PE X (.Call (.Name x p) [.Name y p2] [] pos) (TEof X dA W (evE C (.lens i))) := by
  refine (pe_callB call_len hg hm hv (pa_cons ha pa_nil hs) hn hdb hs).mono fun σ H Q ⟨F, s, R, h⟩ => ?_
  have h' : PostE X dA W σ s F H (fun _ => Q) (match s.env[i]? with
    | some (some (.scr ns)) => .ok (.sh (.int ns.length)) s
    | _ => .stuck) := h
  split at h'
  · rename_i ns q
    obtain ⟨v, e, a, rfl, hq⟩ := R.at_ _ _ q
    exact ⟨.ref a, e, .ref a, ns.length, rfl, .inl ⟨_, seqL_mono R.sub hq, by rw [List.length_map]⟩, h' (.int _) F H R Ext.refl (.int _)⟩
  · exact h'.elim
end
end WV
namespace WV
open PySem PySem.Spec PyProof.Rows L2
/-! ## calls of defs -/
def ARep (K : KW) (dA : DA) (F : Hp) (v : V) : Cell → Prop
  | .sh d => Rep K F v d
  | .deal => ∃ x y, dA = some (x, y) ∧ v = .ref x
  | _ => False
abbrev ARepA (K : KW) (dA : DA) (F : Hp) : List V → List Cell → Prop := Paired (ARep K dA F)
theorem ARep.mono {K : KW} {dA : DA} {F F' : Hp} (s : Same F F') {v : V} {c : Cell} (h : ARep K dA F v c) : ARep K dA F' v c := by
  cases c with
  | sh d => exact Rep.mono s h
  | deal => exact h
  | _ => exact h.elim
theorem ARepA.mono {K : KW} {dA : DA} {F F' : Hp} (s : Same F F') : ∀ {vs : List V} {cs : List Cell}, ARepA K dA F vs cs → ARepA K dA F' vs cs
  | _, _, .nil => .nil
  | _, _, .cons h r => .cons (h.mono s) (ARepA.mono s r)
/-- what a call leaves -/
structure PostC (dA : DA) (F H F' H' : Hp) : Prop where
  keep : ∀ a o, H a = some o → ¬ isDA dA a → H' a = some o
  live : ∀ a, H a ≠ none → H' a ≠ none
  fs : Same F F'
  fh : Same F' H'
  nw : ∀ a, F' a ≠ none → F a ≠ none ∨ H a = none
def spOf (K : KW) (mg : Str → Option Value) (np : Nat) (g : List Cell → Option Dl → CRes) : Sp := fun vs H Q E => ∃ (dA : DA) (F : Hp) (cs : List Cell) (dl : Option Dl),
  Same F H ∧ vs.length = np ∧ ARepA K dA F vs cs ∧ DealOk dA F H dl ∧ (match g cs dl with
    | .ret rv dl' => ∀ v F' H', PostC dA F H F' H' → DealOk dA F' H' dl' → RRep K H F' H' v rv → Q v H'
    | .exc c dl' => ∀ C F' H', mg c = some (.ref C) → PostC dA F H F' H' → DealOk dA F' H' dl' → E (.ref C) none H'
    | .stuck => False)
section
variable {K : KW} {dA : DA} {F F' H H' : Hp} {σ : SS} {s : Sto}
theorem PostC.rel (R : Rel K dA F H σ s) (p : PostC dA F H F' H') {dl : Option Dl} (hd : DealOk dA F' H' dl) : Rel K dA F' H' σ { s with dl := dl } := by
  refine ⟨p.fh, R.len, fun i c h => ?_, R.apart, hd⟩
  obtain ⟨v, e, q⟩ := R.at_ i c h
  refine ⟨v, e, ?_⟩
  cases c with
  | sh d => exact Rep.mono p.fs q
  | ow d =>
    obtain ⟨a, rfl, h1, h2, h3⟩ := q
    refine ⟨a, rfl, ?_, h2, h3.keep p.fs fun o e => p.keep a o e h2⟩
    cases e : F' a with
    | none => rfl
    | some o =>
      rcases p.nw a (by rw [e]; exact fun z => nomatch z) with q | q
      · exact absurd h1 q
      · exact absurd q h3.there
  | deal => exact q
  | dcl => exact q
  | scr ns =>
    obtain ⟨a, rfl, h1⟩ := q
    exact ⟨a, rfl, seqL_mono p.fs h1⟩
theorem PostC.ext (p : PostC dA F H F' H') {dl : Option Dl} : Ext dA σ s F H { s with dl := dl } F' H' :=
  ⟨fun a o h _ n => p.keep a o h n, p.live, p.fs, fun a h => (p.nw a h).elim .inl fun q => .inr (.inr q), fun _ h => h⟩
end
section
variable {X : Cx} {dA : DA} {W : WX} {f g : Sto → Out RV} {fc gc : Sto → Out (List Cell)} {a b c e : Expr} {es : List Expr} {pos : Pos}
def TCof (X : Cx) (dA : DA) (W : WX) (f : Sto → Out (List Cell)) : TA := fun σ H Q => ∃ F s, Rel X.KW dA F H σ s ∧ PostG X dA W σ s F H (fun cs vs F' => ARepA X.KW dA F' vs cs) Q (f s)
theorem r_cnil {C : Cal} : PA X [] (TCof X dA W (evA C .nil)) :=
  pa_nil.mono fun σ H Q ⟨F, s, R, h⟩ => h [] F H R Ext.refl .nil
theorem ccons_post {F H : Hp} {σ : SS} {s : Sto} {Q : List V → Hp → Prop} {o : Out RV} {gc : Sto → Out (List Cell)} {t : TA} (R : Rel X.KW dA F H σ s)
    (hg : ∀ {F s H Q}, Rel X.KW dA F H σ s → PostG X dA W σ s F H (fun cs vs F' => ARepA X.KW dA F' vs cs) Q (gc s) → t σ H Q)
    (h : PostG X dA W σ s F H (fun cs vs F' => ARepA X.KW dA F' vs cs) Q (o.bind fun r s1 => (gc s1).bind fun ds s2 => .ok (.sh r.dat :: ds) s2)) :
    PostE X dA W σ s F H (fun _ => fun x H1 => t σ H1 fun xs H2 => Q (x :: xs) H2) o :=
  PostE.keep R (PostG.bindG' h fun r s1 v F1 H1 _ R1 x1 g1 h => hg R1 (PostG.bindG' h fun ds s2 vs F2 H2 _ R2 x2 g2 h =>
    h (v :: vs) F2 H2 R2 Ext.refl (.cons (Rep.mono x2.fs g1) g2)))
theorem r_ccons (ha : PE X e (TEof X dA W f)) (hb : PA X es (TCof X dA W gc)) (hs : starEach (e :: es) X.env = (false, eval e X.env) :: starEach es X.env := by rfl) :
    PA X (e :: es) (TCof X dA W fun s => (f s).bind fun r s1 => (gc s1).bind fun ds s2 => .ok (.sh r.dat :: ds) s2) :=
  (pa_cons ha hb hs).mono fun σ H Q ⟨F, s, R, h⟩ => ⟨F, s, R, ccons_post R (fun R h => ⟨_, _, R, h⟩) h⟩
theorem r_cname {i : Nat} {C : Cal} {es' : Exs} (ha : PE X e (tVar i)) (hb : PA X es (TCof X dA W (evA C es'))) (hs : starEach (e :: es) X.env = (false, eval e X.env) :: starEach es X.env := by rfl) :
    PA X (e :: es) (TCof X dA W (evA C (.cons (.v i) es'))) :=
  (pa_cons ha hb hs).mono fun σ H Q ⟨F, s, R, h⟩ => by
    have h' : PostG X dA W σ s F H (fun cs vs F' => ARepA X.KW dA F' vs cs) Q (match isDeal s i with
      | true => (evA C es' s).bind fun ds s2 => .ok (.deal :: ds) s2
      | false => (evE C (.v i) s).bind fun r s1 => (evA C es' s1).bind fun ds s2 => .ok (.sh r.dat :: ds) s2) := h
    show ∃ v, σ[i]? = some (some v) ∧ TCof X dA W (evA C es') σ H fun xs H2 => Q (v :: xs) H2
    cases ed : isDeal s i with
    | false =>
      rw [ed] at h'
      have q := ccons_post (t := TCof X dA W (evA C es')) R (fun R h => ⟨_, _, R, h⟩) h'
      have q' : PostE X dA W σ s F H (fun _ => fun x H1 => TCof X dA W (evA C es') σ H1 fun xs H2 => Q (x :: xs) H2) (match s.env[i]? with
        | some (some (.sh d)) => .ok (.sh d) s
        | some (some (.ow d)) => .ok (.sh d) (s.set i (.sh d))
        | _ => .stuck) := q
      split at q'
      · rename_i d q0
        obtain ⟨v, e, r⟩ := R.at_ _ _ q0
        exact ⟨v, e, q' v F H R Ext.refl r⟩
      · rename_i d q0
        obtain ⟨F', v, e, r, R', x'⟩ := R.freezeSlot q0
        exact ⟨v, e, q' v F' H R' x' r⟩
      · exact q'.elim
    | true =>
      rw [ed] at h'
      unfold isDeal at ed
      split at ed
      · rename_i q0
        obtain ⟨v, e, x, y, e1, e2⟩ := R.at_ _ _ q0
        exact ⟨v, e, F, s, R, PostG.bindG' h' fun ds s2 vs F2 H2 _ R2 x2 g2 h => h (v :: vs) F2 H2 R2 Ext.refl (.cons ⟨x, y, e1, e2⟩ g2)⟩
      · cases ed
/-- a def in the table -/
structure FnF (P : Program) (w : World) (K : KW) (mg : Str → Option Value) (base : Heap) (k : Nat) (f : Str) (np : Nat) (g : List Cell → Option Dl → CRes) (fa : Addr) (fd : FuncData) (ps : List Str) : Prop where
  gl : mg f = some (.ref fa)
  kp : PySem.W.keepIn K (.ref fa) = true
  bd : Binds K fd ps []
  ok : FnOk P w K mg base (L2.CX P w) k fa fd ps (spOf K mg np g)
  ln : ps.length = np
theorem call_post {σ : SS} {F H : Hp} {s : Sto} {g : List Cell → Option Dl → CRes} {np : Nat} {Q : VK} {vs : List V} {cs : List Cell} (R : Rel X.KW dA F H σ s) (ra : ARepA X.KW dA F vs cs) (hl : g cs s.dl ≠ .stuck → vs.length = np)
    (h : PostE X dA W σ s F H (fun _ => Q) (match g cs s.dl with
    | .ret rv d => .ok rv { s with dl := d }
    | .exc c d => .exc c { s with dl := d }
    | .stuck => .stuck)) : spOf X.KW X.mg np g vs H Q (WE W σ) := by
  refine ⟨dA, F, cs, s.dl, R.sub, hl (fun e => by rw [e] at h; exact h), ra, R.deal, ?_⟩
  revert h
  cases g cs s.dl with
  | stuck => exact fun h => h
  | ret rv d => exact fun h v F' H' p hd r => h v F' H' (p.rel R hd) p.ext r
  | exc c d => exact fun h C F' H' e p hd => h C F' H' e (p.rel R hd) p.ext
theorem r_call {x : Str} {p : Pos} {k np : Nat} {fa : Addr} {fd : FuncData} {ps : List Str} {gf : List Cell → Option Dl → CRes} (tk : Takes X W) (T : FnF X.prog X.w X.KW X.mg X.base k x np gf fa fd ps) (hr : Room k X.A) (hg : Gl X x) (hst : ∀ cs dl, gf cs dl ≠ .stuck → cs.length = np)
    (ha : PA X (e :: es) (TCof X dA W fc)) (hdb : (x == ("__debug__" : Str)) = false) (he : starEach (e :: es) X.env = (false, eval e X.env) :: starEach es X.env) (hpl : (backTo pos (starEach es X.env)).any (·.1) = false) :
    PE X (.Call (.Name x p) (e :: es) [] pos) (TEof X dA W fun s => (fc s).bind fun cs s1 => match gf cs s1.dl with
    | .ret rv d => .ok rv { s1 with dl := d }
    | .exc c d => .exc c { s1 with dl := d }
    | .stuck => .stuck) :=
  (pe_callS T.ok hr hg T.gl T.kp T.bd (passAt tk) ha hdb he hpl).mono fun σ H Q ⟨F, s, R, h⟩ => ⟨F, s, R, PostG.bind h fun cs s1 vs F1 H1 _ R1 x1 g1 h => call_post R1 g1 (fun z => by rw [Paired.length g1]; exact hst _ _ z) h⟩
/-- .. by keywords -/
def pick {α : Type} (pm : List Nat) (us ws : List α) : List α := pm.filterMap fun j => (us ++ ws)[j]?
theorem Vals.pick {vs zs : List V} {us ws : List Value} (pm : List Nat) (r : Vals vs us) (q : Vals zs ws) : Vals (pick pm vs zs) (pick pm us ws) := by
  have r2 : Vals (vs ++ zs) (us ++ ws) := r.append q
  induction pm with
  | nil => exact .nil
  | cons j pm ih =>
    unfold WV.pick at ih ⊢
    rw [List.filterMap_cons, List.filterMap_cons]
    cases e : (vs ++ zs)[j]? with
    | none =>
      rw [r2.none_of e]
      exact ih
    | some x =>
      obtain ⟨u, e2, ru⟩ := r2.get e
      rw [e2]
      exact .cons ru ih
theorem ARepA.get {K : KW} {F : Hp} : ∀ {vs : List V} {cs : List Cell} (i : Nat), ARepA K dA F vs cs → (∃ v c, vs[i]? = some v ∧ cs[i]? = some c ∧ ARep K dA F v c) ∨ (vs[i]? = none ∧ cs[i]? = none)
  | _, _, _, .nil => .inr ⟨by simp, by simp⟩
  | _, _, 0, .cons h _ => .inl ⟨_, _, rfl, rfl, h⟩
  | _, _, i + 1, .cons _ r => by simpa using ARepA.get i r
theorem ARepA.append {K : KW} {F : Hp} : ∀ {vs ws : List V} {cs ds : List Cell}, ARepA K dA F vs cs → ARepA K dA F ws ds → ARepA K dA F (vs ++ ws) (cs ++ ds)
  | _, _, _, _, .nil, s => s
  | _, _, _, _, .cons h r, s => .cons h (ARepA.append r s)
theorem ARepA.pick {K : KW} {F : Hp} {vs ws : List V} {cs ds : List Cell} (pm : List Nat) (r : ARepA K dA F vs cs) (q : ARepA K dA F ws ds) : ARepA K dA F (pick pm vs ws) (pm.filterMap fun j => (cs ++ ds)[j]?) := by
  have r2 := r.append q
  induction pm with
  | nil => exact .nil
  | cons j pm ih =>
    unfold WV.pick at ih ⊢
    rw [List.filterMap_cons, List.filterMap_cons]
    rcases r2.get j with ⟨v, c, e1, e2, h⟩ | ⟨e1, e2⟩
    · rw [e1, e2]; exact .cons h ih
    · rw [e1, e2]; exact ih
/-- an argument list of keywords -/
theorem _root_.L2.PK.mono {X : Cx} {e : List Keyword} {t t' : TA} (h : PK X e t) (i : ∀ σ H Q, t' σ H Q → t σ H Q) : PK X e t' := ⟨fun pos pins s σ H Q I w => h.run pos pins s σ H Q I (i σ H Q w)⟩
theorem r_knil {C : Cal} : PK X [] (TCof X dA W (evA C .nil)) :=
  pk_nil.mono fun σ H Q ⟨F, s, R, h⟩ => h [] F H R Ext.refl .nil
theorem r_kcons {kws : List Keyword} {nm : Option Str} {kpos : Pos} (ha : PE X e (TEof X dA W f)) (hb : PK X kws (TCof X dA W gc)) :
    PK X (⟨nm, e, kpos⟩ :: kws) (TCof X dA W fun s => (f s).bind fun r s1 => (gc s1).bind fun ds s2 => .ok (.sh r.dat :: ds) s2) :=
  (pk_cons ha hb).mono fun σ H Q ⟨F, s, R, h⟩ => ⟨F, s, R, ccons_post R (fun R h => ⟨_, _, R, h⟩) h⟩
theorem r_kname {kws : List Keyword} {nm : Option Str} {kpos : Pos} {i : Nat} {C : Cal} {es' : Exs} (ha : PE X e (tVar i)) (hb : PK X kws (TCof X dA W (evA C es'))) :
    PK X (⟨nm, e, kpos⟩ :: kws) (TCof X dA W (evA C (.cons (.v i) es'))) :=
  (pk_cons ha hb).mono fun σ H Q ⟨F, s, R, h⟩ => by
    have h' : PostG X dA W σ s F H (fun cs vs F' => ARepA X.KW dA F' vs cs) Q (match isDeal s i with
      | true => (evA C es' s).bind fun ds s2 => .ok (.deal :: ds) s2
      | false => (evE C (.v i) s).bind fun r s1 => (evA C es' s1).bind fun ds s2 => .ok (.sh r.dat :: ds) s2) := h
    show ∃ v, σ[i]? = some (some v) ∧ TCof X dA W (evA C es') σ H fun xs H2 => Q (v :: xs) H2
    cases ed : isDeal s i with
    | false =>
      rw [ed] at h'
      have q := ccons_post (t := TCof X dA W (evA C es')) R (fun R h => ⟨_, _, R, h⟩) h'
      have q' : PostE X dA W σ s F H (fun _ => fun x H1 => TCof X dA W (evA C es') σ H1 fun xs H2 => Q (x :: xs) H2) (match s.env[i]? with
        | some (some (.sh d)) => .ok (.sh d) s
        | some (some (.ow d)) => .ok (.sh d) (s.set i (.sh d))
        | _ => .stuck) := q
      split at q'
      · rename_i d q0
        obtain ⟨v, e, r⟩ := R.at_ _ _ q0
        exact ⟨v, e, q' v F H R Ext.refl r⟩
      · rename_i d q0
        obtain ⟨F', v, e, r, R', x'⟩ := R.freezeSlot q0
        exact ⟨v, e, q' v F' H R' x' r⟩
      · exact q'.elim
    | true =>
      rw [ed] at h'
      unfold isDeal at ed
      split at ed
      · rename_i q0
        obtain ⟨v, e, x, y, e1, e2⟩ := R.at_ _ _ q0
        exact ⟨v, e, F, s, R, PostG.bindG' h' fun ds s2 vs F2 H2 _ R2 x2 g2 h => h (v :: vs) F2 H2 R2 Ext.refl (.cons ⟨x, y, e1, e2⟩ g2)⟩
      · cases ed
def tCallKS (n m : Nat) (sp : Sp) (gV : List V → List V → List V) (E : SS → XK) (t tk : TA) : TE := fun σ H Q => t σ H fun vs H1 => tk σ H1 fun zs H2 => vs.length = n ∧ zs.length = m ∧ sp (gV vs zs) H2 Q (E σ)
theorem run_fnKS {k n : Nat} {fa : Addr} {fd : FuncData} {ps ks : List Str} {sp : Sp} {E : SS → XK} {gv : List Value → List Value → List Value} {gV : List V → List V → List V}
    {pins : List (Addr × Obj)} {σ : SS} {H : Hp} {s : Shared} {Q : VK} {us ws : List Value} {vs zs : List V} (F : FnOk X.prog X.w X.KW X.mg X.base (L2.CX X.prog X.w) k fa fd ps sp) (hr : Room k X.A) (hb : KBn X.KW fd ps n ks gv gV) (hx : PassesAt (L2.CX X.prog X.w) X σ (E σ))
    (I : Inv X pins σ H s) (r : Vals vs us) (rz : Vals zs ws) (l1 : vs.length = n) (l2 : zs.length = ks.length) (h : sp (gV vs zs) H Q (E σ)) : wpAny (model X.prog X.w) X.A (PySem.call (.ref fa) us (ks.zip ws)) (EP X pins σ Q) X.xe s := by
  have r2 := hb.rel r rz
  refine wpAny_call (codeAny_mono (F.run X.A X.stack s H ⟨us, ks.zip ws⟩ (gv us ws) (gV vs zs) Q (E σ) hr I.env0 (hb.to s us ws I.kIn (r.length.symm.trans l1) (rz.length.symm.trans l2)) r2 h) fun r s' hq => ?_)
  cases r with
  | error e => exact hx pins H s e s' I hq
  | ok fl =>
    cases fl with
    | ret u => exact I.after hq
    | next => exact False.elim hq
    | brk => exact False.elim hq
    | cont => exact False.elim hq
theorem pe_callKS {x : Str} {p : Pos} {k n : Nat} {fa : Addr} {fd : FuncData} {ps ks : List Str} {sp : Sp} {E : SS → XK} {kws : List Keyword} {t tk : TA} {gv : List Value → List Value → List Value} {gV : List V → List V → List V}
    (F : FnOk X.prog X.w X.KW X.mg X.base (L2.CX X.prog X.w) k fa fd ps sp) (hr : Room k X.A) (hg : Gl X x) (hm : X.mg x = some (.ref fa)) (hk : PySem.W.keepIn X.KW (.ref fa) = true) (hb : KBn X.KW fd ps n ks gv gV) (hx : ∀ σ, PassesAt (L2.CX X.prog X.w) X σ (E σ))
    (ha : PA X (e :: es) t) (hkw : PK X kws tk) (hall : (backToKw pos (keywordEach kws X.env)).all (·.1.isSome) = true) (hks : (backToKw pos (keywordEach kws X.env)).filterMap (·.1) = ks)
    (hdb : (x == ("__debug__" : Str)) = false) (he : starEach (e :: es) X.env = (false, eval e X.env) :: starEach es X.env)
    (hpl : ((backTo pos (starEach (e :: es) X.env)).any (·.1) || (backToKw pos (keywordEach kws X.env)).any (·.1.isNone)) = false) :
    PE X (.Call (.Name x p) (e :: es) kws pos) (tCallKS n ks.length sp gV E t tk) := by
  refine ⟨fun pins s σ H Q I h => ?_⟩
  refine wpAny_Call_Name_kw (ld_glob I hg hm ?_ hdb)
  refine PySem.W.callWith_KW (h₀ := X.base) I.ok.mod.kin hk hall (thn (ha.run pos pins s σ H _ I h) fun us s1 ⟨vs, H1, I1, r, q⟩ => ?_) hpl he
  refine thn (hkw.run pos pins s1 σ H1 _ I1 q) fun ws s2 ⟨zs, H2, I2, rz, l1, l2, q2⟩ => ⟨I2.kIn, ?_⟩
  rw [hks]
  exact run_fnKS F hr hb (hx σ) I2 r rz l1 l2 q2
theorem pe_callKS0 {x : Str} {p : Pos} {k : Nat} {fa : Addr} {fd : FuncData} {ps ks : List Str} {sp : Sp} {E : SS → XK} {kws : List Keyword} {tk : TA} {gv : List Value → List Value → List Value} {gV : List V → List V → List V}
    (F : FnOk X.prog X.w X.KW X.mg X.base (L2.CX X.prog X.w) k fa fd ps sp) (hr : Room k X.A) (hg : Gl X x) (hm : X.mg x = some (.ref fa)) (hk : PySem.W.keepIn X.KW (.ref fa) = true) (hb : KBn X.KW fd ps 0 ks gv gV) (hx : ∀ σ, PassesAt (L2.CX X.prog X.w) X σ (E σ))
    (hkw : PK X kws tk) (hall : (backToKw pos (keywordEach kws X.env)).all (·.1.isSome) = true) (hks : (backToKw pos (keywordEach kws X.env)).filterMap (·.1) = ks)
    (hdb : (x == ("__debug__" : Str)) = false)
    (hpl : ((backTo pos (starEach [] X.env)).any (·.1) || (backToKw pos (keywordEach kws X.env)).any (·.1.isNone)) = false) :
    PE X (.Call (.Name x p) [] kws pos) (fun σ H Q => tk σ H fun zs H2 => zs.length = ks.length ∧ sp (gV [] zs) H2 Q (E σ)) := by
  refine ⟨fun pins s σ H Q I h => ?_⟩
  refine wpAny_Call_Name_kw (ld_glob I hg hm ?_ hdb)
  refine PySem.W.callWith_KW0 (h₀ := X.base) I.ok.mod.kin hk hall ?_ hpl
  refine thn (hkw.run pos pins s σ H _ I h) fun ws s2 ⟨zs, H2, I2, rz, l2, q2⟩ => ⟨I2.kIn, ?_⟩
  rw [hks]
  exact run_fnKS F hr hb (hx σ) I2 .nil rz rfl l2 q2
theorem r_callk {x : Str} {p : Pos} {k n np : Nat} {fa : Addr} {fd : FuncData} {ps ks : List Str} {gf : List Cell → Option Dl → CRes} {pm : List Nat} {kws : List Keyword} (tk : Takes X W) (T : FnF X.prog X.w X.KW X.mg X.base k x np gf fa fd ps) (hr : Room k X.A) (hg : Gl X x) (hst : ∀ cs dl, gf cs dl ≠ .stuck → cs.length = np)
    (hb : KBn X.KW fd ps n ks (pick pm) (pick pm)) (hn : n + ks.length = pm.length)
    (ha : PA X (e :: es) (TCof X dA W fc)) (hkw : PK X kws (TCof X dA W gc)) (hall : (backToKw pos (keywordEach kws X.env)).all (·.1.isSome) = true) (hks : (backToKw pos (keywordEach kws X.env)).filterMap (·.1) = ks)
    (hdb : (x == ("__debug__" : Str)) = false) (he : starEach (e :: es) X.env = (false, eval e X.env) :: starEach es X.env)
    (hpl : ((backTo pos (starEach (e :: es) X.env)).any (·.1) || (backToKw pos (keywordEach kws X.env)).any (·.1.isNone)) = false) :
    PE X (.Call (.Name x p) (e :: es) kws pos) (TEof X dA W fun s => (fc s).bind fun cs s1 => (gc s1).bind fun ds s2 => if cs.length + ks.length = pm.length ∧ ds.length = ks.length then (match gf (pm.filterMap fun j => (cs ++ ds)[j]?) s2.dl with
    | .ret rv d => .ok rv { s2 with dl := d }
    | .exc c d => .exc c { s2 with dl := d }
    | .stuck => .stuck) else .stuck) :=
  (pe_callKS T.ok hr hg T.gl T.kp hb (passAt tk) ha hkw hall hks hdb he hpl).mono fun σ H Q ⟨F, s, R, h⟩ => ⟨F, s, R, PostG.bind h fun cs s1 vs F1 H1 _ R1 x1 g1 h => ⟨F1, s1, R1, PostG.bind h fun ds s2 ws F2 H2 _ R2 x2 g2 h => by
    split at h
    · rename_i c
      have g1' := ARepA.mono x2.fs g1
      refine ⟨?_, ?_, call_post R2 (ARepA.pick pm g1' g2) (fun z => ?_) h⟩
      · have := Paired.length g1; omega
      · have := Paired.length g2; omega
      · rw [Paired.length (ARepA.pick pm g1' g2)]; exact hst _ _ z
    · exact h.elim⟩⟩
theorem r_callk0 {x : Str} {p : Pos} {k np : Nat} {fa : Addr} {fd : FuncData} {ps ks : List Str} {gf : List Cell → Option Dl → CRes} {pm : List Nat} {kws : List Keyword} {C : Cal} (tk : Takes X W) (T : FnF X.prog X.w X.KW X.mg X.base k x np gf fa fd ps) (hr : Room k X.A) (hg : Gl X x) (hst : ∀ cs dl, gf cs dl ≠ .stuck → cs.length = np)
    (hb : KBn X.KW fd ps 0 ks (pick pm) (pick pm)) (hn : ks.length = pm.length)
    (hkw : PK X kws (TCof X dA W gc)) (hall : (backToKw pos (keywordEach kws X.env)).all (·.1.isSome) = true) (hks : (backToKw pos (keywordEach kws X.env)).filterMap (·.1) = ks)
    (hdb : (x == ("__debug__" : Str)) = false)
    (hpl : ((backTo pos (starEach [] X.env)).any (·.1) || (backToKw pos (keywordEach kws X.env)).any (·.1.isNone)) = false) :
    PE X (.Call (.Name x p) [] kws pos) (TEof X dA W fun s => (evA C .nil s).bind fun cs s1 => (gc s1).bind fun ds s2 => if cs.length + ks.length = pm.length ∧ ds.length = ks.length then (match gf (pm.filterMap fun j => (cs ++ ds)[j]?) s2.dl with
    | .ret rv d => .ok rv { s2 with dl := d }
    | .exc c d => .exc c { s2 with dl := d }
    | .stuck => .stuck) else .stuck) :=
  (pe_callKS0 T.ok hr hg T.gl T.kp hb (passAt tk) hkw hall hks hdb hpl).mono fun σ H Q ⟨F, s, R, h⟩ => ⟨F, s, R, by
    have h1 : PostE X dA W σ s F H (fun _ => Q) ((gc s).bind fun ds s2 => if ([] : List Cell).length + ks.length = pm.length ∧ ds.length = ks.length then (match gf (pm.filterMap fun j => ([] ++ ds)[j]?) s2.dl with
      | .ret rv d => .ok rv { s2 with dl := d }
      | .exc c d => .exc c { s2 with dl := d }
      | .stuck => .stuck) else .stuck) := h
    exact PostG.bind h1 fun ds s2 ws F2 H2 _ R2 x2 g2 h => by
      split at h
      · rename_i c
        have q := ARepA.pick (dA := dA) (F := F2) (K := X.KW) pm .nil g2
        refine ⟨?_, call_post R2 q (fun z => ?_) h⟩
        · have := Paired.length g2; omega
        · rw [Paired.length q]; exact hst _ _ z
      · exact h.elim⟩
end
end WV
namespace WV
open PySem PySem.Spec PyProof.Rows L2
/-! ## draws -/
def spTake (tk : Dl → Int → Option (Int × Dl)) : Sp := fun vs H Q _ => ∃ (a c : Addr) (dl dl' : Dl) (m n : Int), vs = [.ref a, .int m] ∧ a ≠ c ∧ H a = some (.lst (.ref c :: dl.rest.map V.int)) ∧ H c = some (.lst (dl.cells.map V.int)) ∧
  tk dl m = some (n, dl') ∧ ∀ H', (∀ b o, H b = some o → b ≠ a → b ≠ c → H' b = some o) → H' a = some (.lst (.ref c :: dl'.rest.map V.int)) → H' c = some (.lst (dl'.cells.map V.int)) → Q (.int n) H'
section
variable {X : Cx} {dA : DA} {W : WX} {fa : Sto → Out Opd} {f g : Sto → Out RV} {a b c e : Expr} {es : List Expr} {pos : Pos}
theorem isDeal_eq {s : Sto} {i : Nat} (h : isDeal s i = true) : s.env[i]? = some (some .deal) := by
  unfold isDeal at h
  split at h
  · assumption
  · cases h
theorem r_draw {x y : Str} {p p2 : Pos} {k i : Nat} {fad : Addr} {fd : FuncData} {ps : List Str} {tkf : Dl → Int → Option (Int × Dl)} (tk : Takes X W) (T : FnOk X.prog X.w X.KW X.mg X.base (L2.CX X.prog X.w) k fad fd ps (spTake tkf)) (hr : Room k X.A) (hg : Gl X x)
    (hm : X.mg x = some (.ref fad)) (hk : PySem.W.keepIn X.KW (.ref fad) = true) (hb : Binds X.KW fd ps []) (hd : PE X (.Name y p2) (tVar i)) (ha : PE X a (TOof X dA W fa)) (hdb : (x == ("__debug__" : Str)) = false)
    (hs : starEach [.Name y p2, a] X.env = (false, eval (.Name y p2) X.env) :: starEach [a] X.env) (hs2 : starEach [a] X.env = (false, eval a X.env) :: starEach [] X.env) (hpl : (backTo pos (starEach [a] X.env)).any (·.1) = false) :
    PE X (.Call (.Name x p) [.Name y p2, a] [] pos) (TEof X dA W fun s => if !(isDeal s i) then .stuck else (fa s).bind fun x s1 => match s1.env[i]?, x.get s1, s1.dl with
    | some (some .deal), some (.int m), some dl => match tkf dl m with
      | some (n, dl') => .ok (.sh (.int n)) { s1 with dl := some dl' }
      | none => .stuck
    | _, _, _ => .stuck) := by
  refine (pe_callS T hr hg hm hk hb (passAt tk) (pa_cons hd (pa_cons ha pa_nil hs2) hs) hdb hs hpl).mono fun σ H Q ⟨F, s, R, h⟩ => ?_
  show ∃ v, σ[i]? = some (some v) ∧ TOof X dA W fa σ H fun x H2 => spTake tkf (v :: [x]) H2 Q (WE W σ)
  dsimp only at h
  split at h
  · exact h.elim
  · rename_i hd0
    have hdl : isDeal s i = true := by simpa using hd0
    obtain ⟨v, ev, ax, cx, ed, rfl⟩ := R.at_ _ _ (isDeal_eq hdl)
    refine ⟨_, ev, F, s, R, PostG.bind h fun x s1 v F1 H1 _ R1 x1 g1 h => ?_⟩
    split at h
    · rename_i m dl q1 q2 q3
      have bm := (g1.brep R1 same_refl q2).int
      subst bm
      have hdo := R1.deal
      rw [q3] at hdo
      obtain ⟨a', c', e', ne, h1, h2, h3, h4⟩ := hdo
      rw [ed] at e'
      cases e'
      cases et : tkf dl m with
      | none => rw [et] at h; exact h.elim
      | some nd =>
        obtain ⟨n, dl'⟩ := nd
        rw [et] at h
        refine ⟨ax, cx, dl, dl', m, n, rfl, ne, h1, h2, et, fun H' k1 k2 k3 => ?_⟩
        have nF : ∀ b o, F1 b = some o → b ≠ ax ∧ b ≠ cx := fun b o e => ⟨fun z => (by subst z; rw [h3] at e; cases e), fun z => (by subst z; rw [h4] at e; cases e)⟩
        have fz : Same F1 H' := fun b o e => k1 b o (R1.sub b o e) (nF b o e).1 (nF b o e).2
        have da : ∀ b, ¬ isDA dA b → b ≠ ax ∧ b ≠ cx := fun b nb => ⟨fun z => nb ⟨_, _, ed, .inl z⟩, fun z => nb ⟨_, _, ed, .inr z⟩⟩
        refine h (.int n) F1 H' ⟨fz, R1.len, fun j c q => ?_, R1.apart, ⟨ax, cx, ed, ne, k2, k3, h3, h4⟩⟩ ⟨fun b o q _ nb => k1 b o q (da b nb).1 (da b nb).2, fun b q z => ?_, same_refl, fun b q => .inl q, fun b q => q⟩ (.int n)
        · obtain ⟨w, ew, q'⟩ := R1.at_ j c q
          refine ⟨w, ew, ?_⟩
          cases c with
          | sh d => exact q'
          | ow d =>
            obtain ⟨b, rfl, z1, z2, z3⟩ := q'
            exact ⟨b, rfl, z1, z2, z3.keep same_refl fun o e => k1 b o e (da b z2).1 (da b z2).2⟩
          | deal => exact q'
          | dcl => exact q'
          | scr ns => exact q'
        · by_cases za : b = ax
          · subst za; rw [k2] at z; cases z
          · by_cases zc : b = cx
            · subst zc; rw [k3] at z; cases z
            · cases e : H1 b with
              | none => exact q e
              | some o => rw [k1 b o e za zc] at z; cases z
    · exact h.elim
/-! ## lists that change -/
theorem getOw_eq {s : Sto} {i : Nat} {ds : List D} (h : getOw s i = some ds) : s.env[i]? = some (some (.ow (.list ds))) := by
  unfold getOw at h
  split at h
  · rename_i q
    cases h
    exact q
  · cases h
/-- a slot's list is another one now -/
theorem Rel.storeD {K : KW} {F H : Hp} {σ : SS} {s : Sto} {i : Nat} {d0 d1 : D} {ax : Addr} {ob : HO} (R : Rel K dA F H σ s) (h : s.env[i]? = some (some (.ow d0))) (e : σ[i]? = some (some (.ref ax))) (r : Own K F (upd H ax ob) ax d1) :
    Rel K dA F (upd H ax ob) σ (s.set i (.ow d1)) ∧ Ext dA σ s F H (s.set i (.ow d1)) F (upd H ax ob) := by
  obtain ⟨a', e', h1, h2, h3, h4⟩ := R.own h
  rw [e] at e'
  cases e'
  have hi : i < s.env.length := (List.getElem?_eq_some_iff.mp h).1
  have same_i : (s.set i (.ow d1)).env[i]? = some (some (.ow d1)) := by
    show (s.env.set i _)[i]? = _
    rw [List.getElem?_set_self hi]
  have other : ∀ j, j ≠ i → (s.set i (.ow d1)).env[j]? = s.env[j]? := fun j hj => by
    show (s.env.set i _)[j]? = _
    rw [List.getElem?_set_ne (Ne.symm hj)]
  have was : ∀ (j : Nat) (dd : D), (s.set i (.ow d1)).env[j]? = some (some (.ow dd)) → ∃ dd' : D, s.env[j]? = some (some (.ow dd')) := fun j dd q => by
    by_cases z : j = i
    · subst z; exact ⟨_, h⟩
    · rw [other j z] at q; exact ⟨_, q⟩
  have nF : ∀ b o, F b = some o → b ≠ ax := fun b o q z => by subst z; rw [h1] at q; cases q
  refine ⟨⟨fun b o q => ?_, ?_, fun j c q => ?_, fun j k d e a q1 q2 q3 q4 => ?_, ?_⟩, ⟨fun b o q nb _ => ?_, fun b q z => ?_, same_refl, fun b q => .inl q, fun b q => ?_⟩⟩
  · rw [upd_ne (nF b o q)]; exact R.sub b o q
  · show (s.env.set i _).length = _
    rw [List.length_set]; exact R.len
  · by_cases z : j = i
    · subst z
      rw [same_i] at q
      cases q
      exact ⟨_, e, ax, rfl, h1, h2, r⟩
    · rw [other j z] at q
      obtain ⟨v, e2, q2⟩ := R.at_ j c q
      refine ⟨v, e2, ?_⟩
      cases c with
      | sh d => exact q2
      | ow d =>
        obtain ⟨b, rfl, h5, h6, h7⟩ := q2
        refine ⟨b, rfl, h5, h6, h7.keep same_refl fun o q' => ?_⟩
        rw [upd_ne fun zz => ?_]
        · exact q'
        · subst zz
          exact z (R.apart j i _ _ b q h e2 e)
      | deal => exact q2
      | dcl => exact q2
      | scr ns => exact q2
  · obtain ⟨d1, w1⟩ := was j _ q1
    obtain ⟨d2, w2⟩ := was k _ q2
    exact R.apart j k _ _ a w1 w2 q3 q4
  · have hd : DealOk dA F H s.dl := R.deal
    show DealOk dA F _ s.dl
    cases hdl : s.dl with
    | none => rw [hdl] at hd; exact hd
    | some dl =>
      rw [hdl] at hd
      obtain ⟨a', c', e', ne, q1, q2, q3, q4⟩ := hd
      exact ⟨a', c', e', ne, by rw [upd_ne fun z => h2 ⟨_, _, e', .inl z.symm⟩]; exact q1, by rw [upd_ne fun z => h2 ⟨_, _, e', .inr z.symm⟩]; exact q2, q3, q4⟩
  · rw [upd_ne (show b ≠ ax from fun z => nb (by rw [z]; exact h4))]; exact q
  · by_cases zz : b = ax
    · subst zz; rw [upd_same] at z; cases z
    · rw [upd_ne zz] at z; exact q z
  · obtain ⟨j, dd, q1, q2⟩ := q
    obtain ⟨dd', w⟩ := was j _ q1
    exact ⟨j, dd', w, q2⟩
theorem Rel.store {K : KW} {F H : Hp} {σ : SS} {s : Sto} {i : Nat} {ds es : List D} {ax : Addr} {vs : List V} (R : Rel K dA F H σ s) (h : s.env[i]? = some (some (.ow (.list ds)))) (e : σ[i]? = some (some (.ref ax))) (r : RepA K F vs es) :
    Rel K dA F (upd H ax (.lst vs)) σ (s.set i (.ow (.list es))) ∧ Ext dA σ s F H (s.set i (.ow (.list es))) F (upd H ax (.lst vs)) := R.storeD h e ⟨vs, upd_same, r⟩
theorem getOd_eq {s : Sto} {i : Nat} {kvs : List (D × D)} (h : getOd s i = some kvs) : s.env[i]? = some (some (.ow (.dict kvs))) := by
  unfold getOd at h
  split at h
  · rename_i e
    cases h
    exact e
  · cases h
theorem Rel.dct {K : KW} {F H : Hp} {σ : SS} {s : Sto} {i : Nat} {kvs : List (D × D)} (R : Rel K dA F H σ s) (h : getOd s i = some kvs) : ∃ (a : Addr) (ks : List Key) (vs : List V), σ[i]? = some (some (.ref a)) ∧ H a = some (.dK (ks.zip vs)) ∧ kvs.map (·.1) = ks.map keyD ∧ RepA K F vs (kvs.map (·.2)) := by
  obtain ⟨a, e, _, _, ⟨ks, vs, h3, h4, h5⟩, _⟩ := R.own (getOd_eq h)
  exact ⟨a, ks, vs, e, h3, h4, h5⟩
theorem Rel.lst {K : KW} {F H : Hp} {σ : SS} {s : Sto} {i : Nat} {ds : List D} (R : Rel K dA F H σ s) (h : getOw s i = some ds) : ∃ a vs, σ[i]? = some (some (.ref a)) ∧ H a = some (.lst vs) ∧ RepA K F vs ds := by
  obtain ⟨a, e, _, _, ⟨vs, h3, h4⟩, _⟩ := R.own (getOw_eq h)
  exact ⟨a, vs, e, h3, h4⟩
theorem tyL {K : KW} {H : Hp} {a : Addr} {vs : List V} (h : H a = some (.lst vs)) : tyV K "list" (.ref a) H := .inl ⟨rfl, vs, SqL.of h⟩
theorem r_pop {i : Nat} {y : Str} {p apos : Pos} {C : Cal} (hd : PE X (.Name y p) (tVar i)) (hb : attributeBase (.Name y p) "pop" X.env (eval (.Name y p) X.env) = eval (.Name y p) X.env) (hl : (apos.endLine == pos.line) = true) :
    PE X (.Call (.Attribute (.Name y p) "pop" apos) [] [] pos) (TEof X dA W (evE C (.pop i))) := by
  refine (pe_bm0 PySem.F.plainAttrs_list PySem.F.slot_list_pop PySem.F.type_list_pop mt_pop hd hb hl).mono fun σ H Q ⟨F, s, R, h⟩ => ?_
  have h' : PostE X dA W σ s F H (fun _ => Q) (match getOw s i with
    | some ds => match ds.getLast? with
      | some d => .ok (.sh d) (s.set i (.ow (.list ds.dropLast)))
      | none => .stuck
    | none => .stuck) := h
  cases eo : getOw s i with
  | none => rw [eo] at h'; exact h'.elim
  | some ds =>
    rw [eo] at h'
    cases el : ds.getLast? with
    | none => simp only [el] at h'; exact h'.elim
    | some d =>
      simp only [el] at h'
      obtain ⟨ax, vs, e, hh, r⟩ := R.lst eo
      rw [List.getLast?_eq_getElem?] at el
      obtain ⟨v, ev, rv⟩ := r.get el
      obtain ⟨R', x'⟩ := R.store (getOw_eq eo) e r.dropLast
      refine ⟨_, e, tyL (K := X.KW) hh, ax, vs, v, rfl, rfl, hh, by rw [r.length]; exact ev, h' v F _ R' x' rv⟩
theorem r_app {i : Nat} {y : Str} {p apos : Pos} (hd : PE X (.Name y p) (tVar i)) (ha : PE X a (TEof X dA W f)) (hb : attributeBase (.Name y p) "append" X.env (eval (.Name y p) X.env) = eval (.Name y p) X.env) (hl : (apos.endLine == pos.line) = true)
    (hf : ((backTo pos (starEach [a] X.env)).all (fun x => !x.1) && (backToKw pos (keywordEach [] X.env)).all (fun x => x.1.isSome) && decide (([a] : List Expr).length + ([] : List Keyword).length + (if ([] : List Keyword).isEmpty then 0 else 1) < 30)) = true)
    (hs : starEach [a] X.env = (false, eval a X.env) :: starEach [] X.env) :
    PE X (.Call (.Attribute (.Name y p) "append" apos) [a] [] pos) (TEof X dA W fun s => if (getOw s i).isNone then .stuck else (f s).bind fun r s1 => match getOw s1 i with
    | some ds => if ds.length < sizeLine then .ok (.sh .none) (s1.set i (.ow (.list (ds ++ [r.dat])))) else .stuck
    | none => .stuck) := by
  refine (pe_bm PySem.F.plainAttrs_list PySem.F.slot_list_append PySem.F.type_list_append mt_append hd (pa_cons ha pa_nil hs) hb hf hl hs).mono fun σ H Q ⟨F, s, R, h⟩ => ?_
  dsimp only at h
  split at h
  · exact h.elim
  · rename_i hn
    cases eo : getOw s i with
    | none => rw [eo] at hn; exact absurd rfl hn
    | some ds0 =>
      obtain ⟨ax, vs0, e, hh, _⟩ := R.lst eo
      refine ⟨_, e, tyL (K := X.KW) hh, F, s, R, PostE.keep R (PostG.bind h fun r s1 v F1 H1 _ R1 x1 g1 h => ?_)⟩
      cases eo1 : getOw s1 i with
      | none => rw [eo1] at h; exact h.elim
      | some ds =>
        rw [eo1] at h
        simp only at h
        split at h
        · rename_i hz
          obtain ⟨ax1, vs, e1, hh1, r1⟩ := R1.lst eo1
          rw [e] at e1
          cases e1
          obtain ⟨R', x'⟩ := R1.store (getOw_eq eo1) e (r1.append (.cons g1 .nil))
          exact ⟨ax, vs, v, rfl, rfl, hh1, by rw [r1.length]; exact hz, h .non F1 _ R' x' .non⟩
        · exact h.elim
theorem r_ext {i : Nat} {y : Str} {p apos : Pos} (hd : PE X (.Name y p) (tVar i)) (ha : PE X a (TOof X dA W fa)) (hb : attributeBase (.Name y p) "extend" X.env (eval (.Name y p) X.env) = eval (.Name y p) X.env) (hl : (apos.endLine == pos.line) = true)
    (hf : ((backTo pos (starEach [a] X.env)).all (fun x => !x.1) && (backToKw pos (keywordEach [] X.env)).all (fun x => x.1.isSome) && decide (([a] : List Expr).length + ([] : List Keyword).length + (if ([] : List Keyword).isEmpty then 0 else 1) < 30)) = true)
    (hs : starEach [a] X.env = (false, eval a X.env) :: starEach [] X.env) :
    PE X (.Call (.Attribute (.Name y p) "extend" apos) [a] [] pos) (TEof X dA W fun s => if (getOw s i).isNone then .stuck else (fa s).bind fun x s1 => match getOw s1 i, x.get s1 with
    | some ds, some (.list es) => if ds.length + es.length ≤ sizeLine then .ok (.sh .none) (s1.set i (.ow (.list (ds ++ es)))) else .stuck
    | _, _ => .stuck) := by
  refine (pe_bm PySem.F.plainAttrs_list PySem.F.slot_list_extend PySem.F.type_list_extend mt_extend hd (pa_cons ha pa_nil hs) hb hf hl hs).mono fun σ H Q ⟨F, s, R, h⟩ => ?_
  dsimp only at h
  split at h
  · exact h.elim
  · rename_i hn
    cases eo : getOw s i with
    | none => rw [eo] at hn; exact absurd rfl hn
    | some ds0 =>
      obtain ⟨ax, vs0, e, hh, _⟩ := R.lst eo
      refine ⟨_, e, tyL (K := X.KW) hh, F, s, R, PostG.bind h fun x s1 v F1 H1 _ R1 x1 g1 h => ?_⟩
      split at h
      · rename_i ds es eo1 ex
        split at h
        · rename_i hz
          obtain ⟨ax1, vs, e1, hh1, r1⟩ := R1.lst eo1
          rw [e] at e1
          cases e1
          obtain ⟨bx, ws, rfl, hb1, r2⟩ := (g1.brep R1 same_refl ex).lst R1.sub
          obtain ⟨R', x'⟩ := R1.store (getOw_eq eo1) e (r1.append r2)
          exact ⟨ax, bx, vs, ws, rfl, rfl, hh1, hb1, by rw [r1.length, r2.length]; exact hz, h .non F1 _ R' x' .non⟩
        · exact h.elim
      · exact h.elim
theorem r_popAt {i : Nat} {y : Str} {p apos : Pos} (hd : PE X (.Name y p) (tVar i)) (ha : PE X a (TOof X dA W fa)) (hb : attributeBase (.Name y p) "pop" X.env (eval (.Name y p) X.env) = eval (.Name y p) X.env) (hl : (apos.endLine == pos.line) = true)
    (hf : ((backTo pos (starEach [a] X.env)).all (fun x => !x.1) && (backToKw pos (keywordEach [] X.env)).all (fun x => x.1.isSome) && decide (([a] : List Expr).length + ([] : List Keyword).length + (if ([] : List Keyword).isEmpty then 0 else 1) < 30)) = true)
    (hs : starEach [a] X.env = (false, eval a X.env) :: starEach [] X.env) :
    PE X (.Call (.Attribute (.Name y p) "pop" apos) [a] [] pos) (TEof X dA W fun s => if (getOw s i).isNone then .stuck else (fa s).bind fun x s1 => match getOw s1 i, x.get s1 with
    | some ds, some (.int j) => if -(2 ^ 63) ≤ j ∧ j < 2 ^ 63 then (match seqIndex? j ds.length with
        | some k => match ds[k]? with
          | some d => .ok (.sh d) (s1.set i (.ow (.list (ds.eraseIdx k))))
          | none => .stuck
        | none => .stuck) else .stuck
    | _, _ => .stuck) := by
  refine (pe_bm PySem.F.plainAttrs_list PySem.F.slot_list_pop PySem.F.type_list_pop mt_popAt hd (pa_cons ha pa_nil hs) hb hf hl hs).mono fun σ H Q ⟨F, s, R, h⟩ => ?_
  dsimp only at h
  split at h
  · exact h.elim
  · rename_i hn
    cases eo : getOw s i with
    | none => rw [eo] at hn; exact absurd rfl hn
    | some ds0 =>
      obtain ⟨ax, vs0, e, hh, _⟩ := R.lst eo
      refine ⟨_, e, tyL (K := X.KW) hh, F, s, R, PostG.bind h fun x s1 v F1 H1 _ R1 x1 g1 h => ?_⟩
      split at h
      · rename_i ds j eo1 ex
        split at h
        · rename_i hz
          cases ek : seqIndex? j ds.length with
          | none => rw [ek] at h; exact h.elim
          | some k =>
            rw [ek] at h
            simp only at h
            cases ed : ds[k]? with
            | none => rw [ed] at h; exact h.elim
            | some d =>
              rw [ed] at h
              obtain ⟨ax1, vs, e1, hh1, r1⟩ := R1.lst eo1
              rw [e] at e1
              cases e1
              obtain ⟨v', ev, rv⟩ := r1.get ed
              obtain ⟨R', x'⟩ := R1.store (getOw_eq eo1) e (r1.eraseIdx k)
              have ej := (g1.brep R1 same_refl ex).int
              subst ej
              exact ⟨ax, vs, j, k, v', rfl, rfl, hh1, hz.1, hz.2, by rw [r1.length]; exact ek, ev, h v' F1 _ R' x' rv⟩
        · exact h.elim
      · exact h.elim
end
end WV
namespace WV
open PySem PySem.Spec PyProof.Rows L2
/-! ## what is walked -/
def ItOk (K : KW) (F : Hp) (J : It) (items : List D) : Prop := ∀ (i : Nat) (F1 H1 : Hp), Same F F1 → Same F1 H1 →
  (i < items.length → J.go i H1 ∧ ∀ x H2, J.yld i H1 x H2 → ∃ F2 d, NewF F1 H1 F2 H2 ∧ items[i]? = some d ∧ Rep K F2 x d) ∧ (items.length ≤ i → J.stop i H1)
theorem it_list {K : KW} {F : Hp} {a : Addr} {vs : List V} {ds : List D} (h : F a = some (.lst vs)) (r : RepA K F vs ds) : ItOk K F (Itl K a) ds := fun i F1 H1 s1 s2 => by
  have hq : SqL K H1 a vs := SqL.of (s2 _ _ (s1 _ _ h))
  refine ⟨fun hi => ?_, fun hi => ⟨vs, hq, by rw [r.length]; exact hi⟩⟩
  obtain ⟨v, ev, rv⟩ := r.get (List.getElem?_eq_getElem hi)
  refine ⟨⟨vs, v, hq, ev⟩, fun x H2 hy => ?_⟩
  obtain ⟨rfl, hx⟩ := hy
  have e := hx vs hq
  rw [ev] at e
  cases e
  exact ⟨F1, _, NewF.refl s2, List.getElem?_eq_getElem hi, rv.mono s1⟩
theorem it_tup {K : KW} {F : Hp} {a : Addr} {vs : List V} {ds : List D} (h : SqT K F a vs) (r : RepA K F vs ds) : ItOk K F (Itt K a) ds := fun i F1 H1 s1 s2 => by
  have hq : SqT K H1 a vs := seqT_mono s2 (seqT_mono s1 h)
  refine ⟨fun hi => ?_, fun hi => ⟨vs, hq, by rw [r.length]; exact hi⟩⟩
  obtain ⟨v, ev, rv⟩ := r.get (List.getElem?_eq_getElem hi)
  refine ⟨⟨vs, v, hq, ev⟩, fun x H2 hy => ?_⟩
  obtain ⟨rfl, hx⟩ := hy
  have e := hx vs hq
  rw [ev] at e
  cases e
  exact ⟨F1, _, NewF.refl s2, List.getElem?_eq_getElem hi, rv.mono s1⟩
theorem it_rng {K : KW} {F : Hp} {i j : Int} : ItOk K F (L2.Itr i (j - i).toNat) (rangeD i j) := fun k F1 H1 s1 s2 => by
  have hl : (rangeD i j).length = (j - i).toNat := by simp [rangeD]
  rw [hl]
  refine ⟨fun hk => ⟨hk, fun x H2 hy => ?_⟩, fun hk => hk⟩
  obtain ⟨rfl, rfl⟩ := hy
  exact ⟨F1, .int (i + (k : Nat)), NewF.refl s2, by simp [rangeD, hk], .int _⟩
theorem reverse_get {α : Type} {l : List α} {i : Nat} (h : i < l.length) : l.reverse[i]? = l[l.length - 1 - i]? := by
  rw [List.getElem?_reverse h]
theorem it_rev {K : KW} {F : Hp} {a : Addr} {vs : List V} {ds : List D} (h : F a = some (.lst vs)) (r : RepA K F vs ds) : ItOk K F (Itv K a vs.length) ds.reverse := fun i F1 H1 s1 s2 => by
  have hq : SqL K H1 a vs := SqL.of (s2 _ _ (s1 _ _ h))
  rw [List.length_reverse, ← r.length]
  refine ⟨fun hi => ?_, fun hi => hi⟩
  have hi' : i < ds.length := by rw [← r.length]; exact hi
  have hj : ds.length - 1 - i < ds.length := by omega
  obtain ⟨v, ev, rv⟩ := r.get (List.getElem?_eq_getElem hj)
  rw [r.length]
  refine ⟨⟨hi', vs, v, hq, ev⟩, fun x H2 hy => ?_⟩
  obtain ⟨rfl, hx⟩ := hy
  have e := hx vs hq
  rw [ev] at e
  cases e
  exact ⟨F1, _, NewF.refl s2, by rw [reverse_get hi']; exact List.getElem?_eq_getElem hj, rv.mono s1⟩
theorem it_revT {K : KW} {F : Hp} {a : Addr} {vs : List V} {ds : List D} (h : SqT K F a vs) (r : RepA K F vs ds) : ItOk K F (RT.ItvT K a vs.length) ds.reverse := fun i F1 H1 s1 s2 => by
  have hq : SqT K H1 a vs := seqT_mono s2 (seqT_mono s1 h)
  rw [List.length_reverse, ← r.length]
  refine ⟨fun hi => ?_, fun hi => hi⟩
  have hi' : i < ds.length := by rw [← r.length]; exact hi
  have hj : ds.length - 1 - i < ds.length := by omega
  obtain ⟨v, ev, rv⟩ := r.get (List.getElem?_eq_getElem hj)
  rw [r.length]
  refine ⟨⟨hi', vs, v, hq, ev⟩, fun x H2 hy => ?_⟩
  obtain ⟨rfl, hx⟩ := hy
  have e := hx vs hq
  rw [ev] at e
  cases e
  exact ⟨F1, _, NewF.refl s2, by rw [reverse_get hi']; exact List.getElem?_eq_getElem hj, rv.mono s1⟩
theorem zipWith_get {α β γ : Type} (f : α → β → γ) : ∀ (xs : List α) (ys : List β) (i : Nat) {x : α} {y : β}, xs[i]? = some x → ys[i]? = some y → (xs.zipWith f ys)[i]? = some (f x y) := by
  intro xs ys i x y h1 h2
  rw [List.getElem?_zipWith, h1, h2]
theorem it_zip {K : KW} {F : Hp} {a b : Addr} {vs ws : List V} {ds es : List D} (h : F a = some (.lst vs)) (r : RepA K F vs ds) (h' : F b = some (.lst ws)) (r' : RepA K F ws es) : ItOk K F (Itz K a b) (zipD ds es) := fun i F1 H1 s1 s2 => by
  have hq : SqL K H1 a vs := SqL.of (s2 _ _ (s1 _ _ h))
  have hq' : SqL K H1 b ws := SqL.of (s2 _ _ (s1 _ _ h'))
  have hl : (zipD ds es).length = min ds.length es.length := by simp [zipD]
  rw [hl]
  refine ⟨fun hi => ?_, fun hi => ⟨vs, ws, hq, hq', by rw [r.length, r'.length]; omega⟩⟩
  have i1 : i < ds.length := by omega
  have i2 : i < es.length := by omega
  obtain ⟨v, ev, rv⟩ := r.get (List.getElem?_eq_getElem i1)
  obtain ⟨w, ew, rw'⟩ := r'.get (List.getElem?_eq_getElem i2)
  refine ⟨⟨vs, ws, v, w, hq, hq', ev, ew⟩, fun x H2 hy => ?_⟩
  obtain ⟨T, x1, y1, rfl, hT, rfl, k1, k2⟩ := hy
  have e1 := k1 vs hq
  rw [ev] at e1
  cases e1
  have e2 := k2 ws hq'
  rw [ew] at e2
  cases e2
  have n : NewF F1 H1 (upd F1 T (.tup [v, w])) (upd H1 T (.tup [v, w])) := NewF.one s2 hT
  exact ⟨_, .tuple [ds[i], es[i]], n, zipWith_get _ _ _ _ (List.getElem?_eq_getElem i1) (List.getElem?_eq_getElem i2), .tup (SqT.of upd_same) (.cons ((rv.mono s1).mono n.fs) (.cons ((rw'.mono s1).mono n.fs) .nil))⟩
theorem it_zipT {K : KW} {F : Hp} {a b : Addr} {vs ws : List V} {ds es : List D} (h : SqT K F a vs) (r : RepA K F vs ds) (h' : SqT K F b ws) (r' : RepA K F ws es) : ItOk K F (RZ.ItzT K a b) (zipD ds es) := fun i F1 H1 s1 s2 => by
  have hq : SqT K H1 a vs := seqT_mono s2 (seqT_mono s1 h)
  have hq' : SqT K H1 b ws := seqT_mono s2 (seqT_mono s1 h')
  have hl : (zipD ds es).length = min ds.length es.length := by simp [zipD]
  rw [hl]
  refine ⟨fun hi => ?_, fun hi => ⟨vs, ws, hq, hq', by rw [r.length, r'.length]; omega⟩⟩
  have i1 : i < ds.length := by omega
  have i2 : i < es.length := by omega
  obtain ⟨v, ev, rv⟩ := r.get (List.getElem?_eq_getElem i1)
  obtain ⟨w, ew, rw'⟩ := r'.get (List.getElem?_eq_getElem i2)
  refine ⟨⟨vs, ws, v, w, hq, hq', ev, ew⟩, fun x H2 hy => ?_⟩
  obtain ⟨T, x1, y1, rfl, hT, rfl, k1, k2⟩ := hy
  have e1 := k1 vs hq
  rw [ev] at e1
  cases e1
  have e2 := k2 ws hq'
  rw [ew] at e2
  cases e2
  have n : NewF F1 H1 (upd F1 T (.tup [v, w])) (upd H1 T (.tup [v, w])) := NewF.one s2 hT
  exact ⟨_, .tuple [ds[i], es[i]], n, zipWith_get _ _ _ _ (List.getElem?_eq_getElem i1) (List.getElem?_eq_getElem i2), .tup (SqT.of upd_same) (.cons ((rv.mono s1).mono n.fs) (.cons ((rw'.mono s1).mono n.fs) .nil))⟩
theorem it_enum {K : KW} {F : Hp} {a : Addr} {vs : List V} {ds : List D} (h : F a = some (.lst vs)) (r : RepA K F vs ds) : ItOk K F (Ite K a) (enumD ds) := fun i F1 H1 s1 s2 => by
  have hq : SqL K H1 a vs := SqL.of (s2 _ _ (s1 _ _ h))
  have hl : (enumD ds).length = ds.length := by simp [enumD]
  rw [hl]
  refine ⟨fun hi => ?_, fun hi => ⟨vs, hq, by rw [r.length]; exact hi⟩⟩
  obtain ⟨v, ev, rv⟩ := r.get (List.getElem?_eq_getElem hi)
  refine ⟨⟨vs, v, hq, ev⟩, fun x H2 hy => ?_⟩
  obtain ⟨T, x1, rfl, hT, rfl, k1⟩ := hy
  have e1 := k1 vs hq
  rw [ev] at e1
  cases e1
  have n : NewF F1 H1 (upd F1 T (.tup [.int (i : Nat), v])) (upd H1 T (.tup [.int (i : Nat), v])) := NewF.one s2 hT
  exact ⟨_, .tuple [.int (i : Nat), ds[i]], n, zipWith_get _ _ _ _ (by simp [hi]) (List.getElem?_eq_getElem hi), .tup (SqT.of upd_same) (.cons (.int _) (.cons ((rv.mono s1).mono n.fs) .nil))⟩
section
variable {X : Cx} {dA : DA} {W : WX} {f g : Sto → Out RV} {a b e : Expr} {es : List Expr} {pos : Pos} {tg : Expr}
def iSeq (K : KW) (tl : TE) : TI := fun σ H R => tl σ H fun x H1 => ∃ a, x = .ref a ∧ ((∃ xs, SqL K H1 a xs ∧ R (Itl K a) H1) ∨ ∃ xs, SqT K H1 a xs ∧ R (Itt K a) H1)
theorem pi_seq {l : Expr} {tl : TE} (hl : PE X l tl) : PI X tg l (iSeq X.KW tl) := by
  refine ⟨fun pins s σ H R I h => ?_⟩
  refine thn (hl.run pins s σ H _ I h) fun v s1 ⟨x, H1, I1, r1, q1⟩ => ?_
  obtain ⟨a, e, q⟩ := q1
  subst e
  cases r1
  rcases q with ⟨xs, hq, q⟩ | ⟨xs, hq, q⟩
  · obtain ⟨its, rv, p, hz⟩ := I1.list hq
    refine wpAny_pyIter_list p.isList ?_
    refine ⟨s1.heap.objs.size, [s1.heap.objs.size], _, _, H1, rfl, I1.kept (t' := s1.toks) fun b o e => Heap.get?_push_of_some _ e, turn_list a _, ⟨_, Heap.get?_push_size _ rfl, rfl, rfl⟩, fun b hb => ?_, q⟩
    have e : b = s1.heap.objs.size := by simpa using hb
    subst e
    exact I1.fpOk (Nat.le_refl _) (I1.hok.fresh (Nat.le_refl _))
  · obtain ⟨its, rv, p, hz⟩ := I1.tuple hq
    refine wpAny_pyIter_tuple (show s1.heap.IsTuple a its.toArray from p) ?_
    refine ⟨s1.heap.objs.size, [s1.heap.objs.size], _, _, H1, rfl, I1.kept (t' := s1.toks) fun b o e => Heap.get?_push_of_some _ e, turn_tuple a _, ⟨_, Heap.get?_push_size _ rfl, rfl, rfl⟩, fun b hb => ?_, q⟩
    have e : b = s1.heap.objs.size := by simpa using hb
    subst e
    exact I1.fpOk (Nat.le_refl _) (I1.hok.fresh (Nat.le_refl _))
def TIof (X : Cx) (dA : DA) (W : WX) (f : Sto → Out (List D)) : TI := fun σ H R => ∃ F s, Rel X.KW dA F H σ s ∧ PostG X dA W σ s F H (fun items J F' => ItOk X.KW F' J items) R (f s)
theorem _root_.L2.PI.mono {X : Cx} {tg e : Expr} {t t' : TI} (h : PI X tg e t) (i : ∀ σ H Q, t' σ H Q → t σ H Q) : PI X tg e t' := ⟨fun pins s σ H Q I w => h.run pins s σ H Q I (i σ H Q w)⟩
theorem outO_some {α β : Type} {σ : SS} {s : Sto} {F H : Hp} {o : Option α} {G : α → β → Hp → Prop} {Q : β → Hp → Prop} (h : PostG X dA W σ s F H G Q (outO o s)) : ∃ x, o = some x ∧ PostG X dA W σ s F H G Q (.ok x s) := by
  cases o with
  | none => exact h.elim
  | some x => exact ⟨x, rfl, h⟩
theorem r_iseq (ha : PE X a (TEof X dA W f)) : PI X tg a (TIof X dA W fun s => (f s).bind fun r s1 => outO (seqItems r.dat) s1) :=
  (pi_seq ha).mono fun σ H Q ⟨F, s, R, h⟩ => ⟨F, s, R, PostE.keep R (PostG.bindG' h fun r s1 v F1 H1 _ R1 x1 g1 h => by
    obtain ⟨items, e, h⟩ := outO_some h
    cases hd : r.dat with
    | list ds =>
      rw [hd] at e g1
      cases e
      cases g1 with
      | lst q r => exact ⟨_, rfl, .inl ⟨_, SqL.of (R1.sub _ _ q), h _ F1 H1 R1 Ext.refl (it_list q r)⟩⟩
    | tuple ds =>
      rw [hd] at e g1
      cases e
      cases g1 with
      | tup q r => exact ⟨_, rfl, .inr ⟨_, seqT_mono R1.sub q, h _ F1 H1 R1 Ext.refl (it_tup q r)⟩⟩
    | _ => rw [hd] at e; cases e)⟩
theorem r_irev {p : Pos} (hg : Gl X "reversed") (hm : X.mg "reversed" = none) (ha : PE X a (TEof X dA W f)) (hs : starEach [a] X.env = (false, eval a X.env) :: starEach [] X.env) :
    PI X tg (.Call (.Name "reversed" p) [a] [] pos) (TIof X dA W fun s => (f s).bind fun r s1 => outO ((seqItems r.dat).map List.reverse) s1) :=
  (RT.pi_revA hg hm ha hs).mono fun σ H Q ⟨F, s, R, h⟩ => ⟨F, s, R, PostE.keep R (PostG.bindG' h fun r s1 v F1 H1 _ R1 x1 g1 h => by
    obtain ⟨items, e, h⟩ := outO_some h
    cases hd : r.dat with
    | list ds =>
      rw [hd] at e g1
      cases e
      cases g1 with
      | lst q r => exact ⟨_, _, rfl, .inl ⟨SqL.of (R1.sub _ _ q), h _ F1 H1 R1 Ext.refl (it_rev q r)⟩⟩
    | tuple ds =>
      rw [hd] at e g1
      cases e
      cases g1 with
      | tup q r => exact ⟨_, _, rfl, .inr ⟨seqT_mono R1.sub q, h _ F1 H1 R1 Ext.refl (it_revT q r)⟩⟩
    | _ => rw [hd] at e; cases e)⟩
theorem r_irg1 {p : Pos} (hg : Gl X "range") (hm : X.mg "range" = none) (ha : PE X a (TEof X dA W f)) (hs : starEach [a] X.env = (false, eval a X.env) :: starEach [] X.env) :
    PI X tg (.Call (.Name "range" p) [a] [] pos) (TIof X dA W fun s => (f s).bind fun r s1 => outO (rngItems (.int 0) r.dat) s1) :=
  (pi_range1 hg hm (pa_cons ha pa_nil hs) hs).mono fun σ H Q ⟨F, s, R, h⟩ => ⟨F, s, R, PostE.keep R (PostG.bindG' h fun r s1 v F1 H1 _ R1 x1 g1 h => by
    obtain ⟨items, e, h⟩ := outO_some h
    cases hd : r.dat <;> rw [hd] at e g1 <;> simp only [rngItems] at e <;> try (cases e; done)
    rename_i j
    split at e
    · rename_i c
      cases e
      cases g1
      refine ⟨j, rfl, c.2.2.1, c.2.2.2, ?_⟩
      have q := h (L2.Itr 0 (j - 0).toNat) F1 H1 R1 Ext.refl it_rng
      rw [Int.sub_zero] at q
      exact q
    · cases e)⟩
theorem r_irg2 {p : Pos} (hg : Gl X "range") (hm : X.mg "range" = none) (ha : PE X a (TEof X dA W f)) (hb : PE X b (TEof X dA W g)) (hs : starEach [a, b] X.env = (false, eval a X.env) :: starEach [b] X.env) (hs2 : starEach [b] X.env = (false, eval b X.env) :: starEach [] X.env) :
    PI X tg (.Call (.Name "range" p) [a, b] [] pos) (TIof X dA W fun s => (f s).bind fun r s1 => (g s1).bind fun q s2 => outO (rngItems r.dat q.dat) s2) :=
  (pi_range2 hg hm (pa_cons ha (pa_cons hb pa_nil hs2) hs) (by rw [hs, hs2]; rfl) (by rw [hs2]; rfl)).mono fun σ H Q ⟨F, s, R, h⟩ => ⟨F, s, R, PostE.keep R (PostG.bindG' h fun r s1 v F1 H1 _ R1 x1 g1 h => ⟨F1, s1, R1, PostE.keep R1 (PostG.bindG' h fun q s2 w F2 H2 _ R2 x2 g2 h => by
    obtain ⟨items, e, h⟩ := outO_some h
    cases hd : r.dat <;> rw [hd] at e g1 <;> (try (cases e; done)) <;> cases hd2 : q.dat <;> rw [hd2] at e g2 <;> simp only [rngItems] at e <;> try (cases e; done)
    rename_i i j
    split at e
    · rename_i c
      cases e
      cases g1
      cases g2
      exact ⟨i, j, rfl, c, h (L2.Itr i (j - i).toNat) F2 H2 R2 Ext.refl it_rng⟩
    · cases e)⟩)⟩
theorem r_ienum {p tpos : Pos} {elts : List Expr} {kk : Nat} (hg : Gl X "enumerate") (hm : X.mg "enumerate" = none) (ha : PE X a (TEof X dA W f)) (hs : starEach [a] X.env = (false, eval a X.env) :: starEach [] X.env) :
    PI X (.Tuple elts kk tpos) (.Call (.Name "enumerate" p) [a] [] pos) (TIof X dA W fun s => (f s).bind fun r s1 => outO (enumItems r.dat) s1) :=
  (pi_enum hg hm (pa_cons ha pa_nil hs) hs).mono fun σ H Q ⟨F, s, R, h⟩ => ⟨F, s, R, PostE.keep R (PostG.bindG' h fun r s1 v F1 H1 _ R1 x1 g1 h => by
    obtain ⟨items, e, h⟩ := outO_some h
    cases hd : r.dat with
    | list ds =>
      rw [hd] at e g1
      cases e
      cases g1 with
      | lst q r => exact ⟨_, _, rfl, SqL.of (R1.sub _ _ q), h _ F1 H1 R1 Ext.refl (it_enum q r)⟩
    | _ => rw [hd] at e; cases e)⟩
theorem r_izip {p tpos : Pos} {elts : List Expr} {kk : Nat} (hg : Gl X "zip") (hm : X.mg "zip" = none) (ha : PE X a (TEof X dA W f)) (hb : PE X b (TEof X dA W g)) (hs : starEach [a, b] X.env = (false, eval a X.env) :: starEach [b] X.env) (hs2 : starEach [b] X.env = (false, eval b X.env) :: starEach [] X.env)
    (hpl : (backTo pos (starEach [b] X.env)).any (·.1) = false) :
    PI X (.Tuple elts kk tpos) (.Call (.Name "zip" p) [a, b] [] pos) (TIof X dA W fun s => (f s).bind fun r s1 => (g s1).bind fun q s2 => outO (zipItems r.dat q.dat) s2) :=
  (RZ.pi_zipA hg hm (pa_cons ha (pa_cons hb pa_nil hs2) hs) hs hpl).mono fun σ H Q ⟨F, s, R, h⟩ => ⟨F, s, R, PostE.keep R (PostG.bindG' h fun r s1 v F1 H1 _ R1 x1 g1 h => ⟨F1, s1, R1, PostE.keep R1 (PostG.bindG' h fun q s2 w F2 H2 _ R2 x2 g2 h => by
    obtain ⟨items, e, h⟩ := outO_some h
    cases hd : r.dat with
    | list ds =>
      cases hd2 : q.dat with
      | list es =>
        rw [hd, hd2] at e
        rw [hd] at g1
        rw [hd2] at g2
        cases e
        cases g1 with
        | lst q r =>
          cases g2 with
          | lst q' r' => exact ⟨_, _, _, _, rfl, .inl ⟨SqL.of (R2.sub _ _ (x2.fs _ _ q)), SqL.of (R2.sub _ _ q'), h _ F2 H2 R2 Ext.refl (it_zip (x2.fs _ _ q) (r.mono x2.fs) q' r')⟩⟩
      | _ => rw [hd, hd2] at e; cases e
    | tuple ds =>
      cases hd2 : q.dat with
      | tuple es =>
        rw [hd, hd2] at e
        rw [hd] at g1
        rw [hd2] at g2
        cases e
        cases g1 with
        | tup q r =>
          cases g2 with
          | tup q' r' => exact ⟨_, _, _, _, rfl, .inr ⟨seqT_mono R2.sub (seqT_mono x2.fs q), seqT_mono R2.sub q', h _ F2 H2 R2 Ext.refl (it_zipT (seqT_mono x2.fs q) (r.mono x2.fs) q' r')⟩⟩
      | _ => rw [hd, hd2] at e; cases e
    | _ => rw [hd] at e; cases e)⟩)⟩
end
end WV
namespace WV
open PySem PySem.Spec PyProof.Rows L2
/-! ## slots -/
theorem wipe_get (σ : SS) (i : Nat) : ∀ vs : List Nat, (L2.wipe σ vs)[i]? = if i ∈ vs then (if i < σ.length then some none else none) else σ[i]?
  | [] => by simp [L2.wipe]
  | v :: vs => by
    unfold L2.wipe
    by_cases h : v = i
    · subst h
      by_cases hi : v < σ.length
      · rw [List.getElem?_set_self (by rw [wipe_length]; exact hi)]
        simp [hi]
      · rw [List.getElem?_eq_none (by rw [List.length_set, wipe_length]; omega)]
        simp [hi]
    · rw [List.getElem?_set_ne h, wipe_get σ i vs]
      have : (i ∈ v :: vs) = (i ∈ vs) := by
        simp only [List.mem_cons, eq_iff_iff]
        exact ⟨fun z => z.resolve_left (Ne.symm h), .inr⟩
      simp only [this]
theorem wipeE_length (e : List (Option Cell)) : ∀ vs : List Nat, (wipeE e vs).length = e.length
  | [] => rfl
  | v :: vs => by unfold wipeE; rw [List.length_set, wipeE_length e vs]
theorem wipeE_get (e : List (Option Cell)) (i : Nat) : ∀ vs : List Nat, (wipeE e vs)[i]? = if i ∈ vs then (if i < e.length then some none else none) else e[i]?
  | [] => by simp [wipeE]
  | v :: vs => by
    unfold wipeE
    by_cases h : v = i
    · subst h
      by_cases hi : v < e.length
      · rw [List.getElem?_set_self (by rw [wipeE_length]; exact hi)]
        simp [hi]
      · rw [List.getElem?_eq_none (by rw [List.length_set, wipeE_length]; omega)]
        simp [hi]
    · rw [List.getElem?_set_ne h, wipeE_get e i vs]
      have : (i ∈ v :: vs) = (i ∈ vs) := by
        simp only [List.mem_cons, eq_iff_iff]
        exact ⟨fun z => z.resolve_left (Ne.symm h), .inr⟩
      simp only [this]
theorem restE_length (e e0 : List (Option Cell)) : ∀ vs : List Nat, (restE e e0 vs).length = e.length
  | [] => rfl
  | v :: vs => by unfold restE; rw [List.length_set, restE_length e e0 vs]
theorem restE_get (e e0 : List (Option Cell)) (i : Nat) : ∀ vs : List Nat, (restE e e0 vs)[i]? = if i ∈ vs then (if i < e.length then some ((e0[i]?).getD none) else none) else e[i]?
  | [] => by simp [restE]
  | v :: vs => by
    unfold restE
    by_cases h : v = i
    · subst h
      by_cases hi : v < e.length
      · rw [List.getElem?_set_self (by rw [restE_length]; exact hi)]
        simp [hi]
      · rw [List.getElem?_eq_none (by rw [List.length_set, restE_length]; omega)]
        simp [hi]
    · rw [List.getElem?_set_ne h, restE_get e e0 i vs]
      have : (i ∈ v :: vs) = (i ∈ vs) := by
        simp only [List.mem_cons, eq_iff_iff]
        exact ⟨fun z => z.resolve_left (Ne.symm h), .inr⟩
      simp only [this]
theorem wipe_set (σ : SS) (own : List Nat) (i : Nat) (v : Option V) (h : i ∈ own) : L2.wipe (σ.set i v) own = L2.wipe σ own := by
  apply List.ext_getElem?
  intro j
  rw [wipe_get, wipe_get, List.length_set]
  split
  · rfl
  · rename_i hj
    rw [List.getElem?_set_ne (fun z => hj (by rw [← z]; exact h))]
section
variable {K : KW} {dA : DA} {F H : Hp} {σ : SS} {s : Sto} {v : V} {d : D}
/-- forgetting slots -/
theorem Rel.wipe (R : Rel K dA F H σ s) (own : List Nat) : Rel K dA F H (L2.wipe σ own) { s with env := wipeE s.env own } := by
  have back : ∀ (i : Nat) (c : Cell), (wipeE s.env own)[i]? = some (some c) → i ∉ own ∧ s.env[i]? = some (some c) := fun i c h => by
    rw [wipeE_get] at h
    split at h
    · split at h <;> cases h
    · rename_i q
      exact ⟨q, h⟩
  refine ⟨R.sub, by rw [wipeE_length, wipe_length]; exact R.len, fun i c h => ?_, fun i j d e a h1 h2 h3 h4 => ?_, R.deal⟩
  · obtain ⟨q1, q2⟩ := back i c h
    obtain ⟨v, e, r⟩ := R.at_ i c q2
    exact ⟨v, by rw [wipe_get, if_neg q1]; exact e, r⟩
  · obtain ⟨q1, q2⟩ := back i _ h1
    obtain ⟨q3, q4⟩ := back j _ h2
    rw [wipe_get, if_neg q1] at h3
    rw [wipe_get, if_neg q3] at h4
    exact R.apart i j d e a q2 q4 h3 h4
theorem OA.wipe {own : List Nat} {a : Addr} (h : OA (L2.wipe σ own) { s with env := wipeE s.env own } a) : OA σ s a := by
  obtain ⟨i, d, h1, h2⟩ := h
  have h1' : (wipeE s.env own)[i]? = some (some (.ow d)) := h1
  rw [wipeE_get] at h1'
  split at h1'
  · split at h1' <;> cases h1'
  · rename_i q
    rw [wipe_get, if_neg q] at h2
    exact ⟨i, d, h1', h2⟩
/-- a slot is set to a value -/
theorem Rel.setSh (R : Rel K dA F H σ s) (r : Rep K F v d) (i : Nat) : Rel K dA F H (σ.set i (some v)) (s.set i (.sh d)) := by
  have back : ∀ (j : Nat) (c : Cell), (s.set i (.sh d)).env[j]? = some (some c) → (j = i ∧ c = .sh d ∧ i < s.env.length) ∨ (j ≠ i ∧ s.env[j]? = some (some c)) := fun j c h => by
    have h' : (s.env.set i (some (.sh d)))[j]? = some (some c) := h
    by_cases z : i = j
    · subst z
      by_cases hi : i < s.env.length
      · rw [List.getElem?_set_self hi] at h'
        cases h'
        exact .inl ⟨rfl, rfl, hi⟩
      · rw [List.getElem?_eq_none (by rw [List.length_set]; omega)] at h'
        cases h'
    · rw [List.getElem?_set_ne z] at h'
      exact .inr ⟨Ne.symm z, h'⟩
  refine ⟨R.sub, ?_, fun j c h => ?_, fun j k d1 e a h1 h2 h3 h4 => ?_, R.deal⟩
  · show (s.env.set i _).length = _
    rw [List.length_set, List.length_set]
    exact R.len
  · rcases back j c h with ⟨rfl, rfl, hi⟩ | ⟨q1, q2⟩
    · exact ⟨v, List.getElem?_set_self (by rw [← R.len]; exact hi), r⟩
    · obtain ⟨w, e, q⟩ := R.at_ j c q2
      exact ⟨w, by rw [List.getElem?_set_ne (Ne.symm q1)]; exact e, q⟩
  · rcases back j _ h1 with ⟨_, z, _⟩ | ⟨q1, q2⟩
    · cases z
    · rcases back k _ h2 with ⟨_, z, _⟩ | ⟨q3, q4⟩
      · cases z
      · rw [List.getElem?_set_ne (Ne.symm q1)] at h3
        rw [List.getElem?_set_ne (Ne.symm q3)] at h4
        exact R.apart j k d1 e a q2 q4 h3 h4
theorem OA.setSh {i : Nat} {a : Addr} {x : V} (h : OA (σ.set i (some x)) (s.set i (.sh d)) a) : OA σ s a := by
  obtain ⟨j, e, h1, h2⟩ := h
  have h' : (s.env.set i (some (.sh d)))[j]? = some (some (.ow e)) := h1
  by_cases z : i = j
  · subst z
    by_cases hi : i < s.env.length
    · rw [List.getElem?_set_self hi] at h'; cases h'
    · rw [List.getElem?_eq_none (by rw [List.length_set]; omega)] at h'; cases h'
  · rw [List.getElem?_set_ne z] at h' h2
    exact ⟨j, e, h', h2⟩
/-- a slot is set to a new container -/
theorem Rel.setOw (R : Rel K dA F H σ s) {a : Addr} (h1 : F a = none) (h2 : ¬ isDA dA a) (h3 : ¬ OA σ s a) (h4 : Own K F H a d) (i : Nat) : Rel K dA F H (σ.set i (some (.ref a))) (s.set i (.ow d)) := by
  have back : ∀ (j : Nat) (c : Cell), (s.set i (.ow d)).env[j]? = some (some c) → (j = i ∧ c = .ow d ∧ i < s.env.length) ∨ (j ≠ i ∧ s.env[j]? = some (some c)) := fun j c h => by
    have h' : (s.env.set i (some (.ow d)))[j]? = some (some c) := h
    by_cases z : i = j
    · subst z
      by_cases hi : i < s.env.length
      · rw [List.getElem?_set_self hi] at h'
        cases h'
        exact .inl ⟨rfl, rfl, hi⟩
      · rw [List.getElem?_eq_none (by rw [List.length_set]; omega)] at h'
        cases h'
    · rw [List.getElem?_set_ne z] at h'
      exact .inr ⟨Ne.symm z, h'⟩
  have at_i : i < s.env.length → (σ.set i (some (V.ref a)))[i]? = some (some (.ref a)) := fun hi => List.getElem?_set_self (by rw [← R.len]; exact hi)
  refine ⟨R.sub, ?_, fun j c h => ?_, fun j k d1 e b q1 q2 q3 q4 => ?_, R.deal⟩
  · show (s.env.set i _).length = _
    rw [List.length_set, List.length_set]
    exact R.len
  · rcases back j c h with ⟨rfl, rfl, hi⟩ | ⟨q1, q2⟩
    · exact ⟨_, at_i hi, a, rfl, h1, h2, h4⟩
    · obtain ⟨w, e, q⟩ := R.at_ j c q2
      exact ⟨w, by rw [List.getElem?_set_ne (Ne.symm q1)]; exact e, q⟩
  · rcases back j _ q1 with ⟨rfl, z, hi⟩ | ⟨w1, w2⟩
    · rcases back k _ q2 with ⟨rfl, z', _⟩ | ⟨w3, w4⟩
      · rfl
      · rw [at_i hi] at q3
        cases q3
        rw [List.getElem?_set_ne (Ne.symm w3)] at q4
        exact absurd ⟨k, e, w4, q4⟩ h3
    · rcases back k _ q2 with ⟨rfl, z', hi⟩ | ⟨w3, w4⟩
      · rw [at_i hi] at q4
        cases q4
        rw [List.getElem?_set_ne (Ne.symm w1)] at q3
        exact absurd ⟨j, d1, w2, q3⟩ h3
      · rw [List.getElem?_set_ne (Ne.symm w1)] at q3
        rw [List.getElem?_set_ne (Ne.symm w3)] at q4
        exact R.apart j k d1 e b w2 w4 q3 q4
theorem OA.setOw {i : Nat} {a b : Addr} (h : OA (σ.set i (some (.ref a))) (s.set i (.ow d)) b) : OA σ s b ∨ b = a := by
  obtain ⟨j, e, h1, h2⟩ := h
  have h' : (s.env.set i (some (.ow d)))[j]? = some (some (.ow e)) := h1
  by_cases z : i = j
  · subst z
    by_cases hi : i < σ.length
    · rw [List.getElem?_set_self hi] at h2; cases h2; exact .inr rfl
    · rw [List.getElem?_eq_none (by rw [List.length_set]; omega)] at h2; cases h2
  · rw [List.getElem?_set_ne z] at h' h2
    exact .inl ⟨j, e, h', h2⟩
end
/-! ## targets -/
def Tg.ids : Tg → List Nat
  | .nm i => [i]
  | .tp is => is
def TGof (X : Cx) (dA : DA) (t : Tg) : TG := fun v σ H Q => ∃ F s d s2, Rel X.KW dA F H σ s ∧ Rep X.KW F v d ∧ bindT t d s = some s2 ∧
  ∀ σ2, Rel X.KW dA F H σ2 s2 → (∀ own : List Nat, (∀ i ∈ t.ids, i ∈ own) → L2.wipe σ2 own = L2.wipe σ own) → (∀ a, OA σ2 s2 a → OA σ s a) → Q σ2 H
theorem _root_.L2.PG.mono {X : Cx} {e : Expr} {t t' : TG} (h : PG X e t) (i : ∀ v σ H Q, t' v σ H Q → t v σ H Q) : PG X e t' := ⟨fun pins s σ H v u Q I r w => h.run pins s σ H v u Q I r (i v σ H Q w)⟩
section
variable {X : Cx} {dA : DA}
theorem r_gname {i : Nat} {e : Expr} (h : PG X e (gName i)) : PG X e (TGof X dA (.nm i)) :=
  h.mono fun v σ H Q ⟨F, s, d, s2, R, r, e, q⟩ => by
    cases e
    exact q _ (R.setSh r i) (fun own h => wipe_set σ own i _ (h i (List.mem_singleton.mpr rfl))) (fun a h => h.setSh)
/-- several names -/
def gIds : List Nat → TGs
  | [] => gNil
  | i :: is => gCons (gName i) (gIds is)
theorem gIds_run {F H : Hp} {Q : SS → Hp → Prop} : ∀ (is : List Nat) (ds : List D) (vs : List V) (σ : SS) (s : Sto), ds.length = is.length → Rel X.KW dA F H σ s → RepA X.KW F vs ds →
    (∀ σ2, Rel X.KW dA F H σ2 { s with env := (is.zip ds).foldl (fun e p => e.set p.1 (some (.sh p.2))) s.env } → (∀ own : List Nat, (∀ i ∈ is, i ∈ own) → L2.wipe σ2 own = L2.wipe σ own) →
      (∀ a, OA σ2 { s with env := (is.zip ds).foldl (fun e p => e.set p.1 (some (.sh p.2))) s.env } a → OA σ s a) → Q σ2 H) → gIds is vs σ H Q
  | [], [], _, σ, s, _, R, r, q => by
    cases r
    exact ⟨rfl, q σ R (fun _ _ => rfl) fun _ h => h⟩
  | i :: is, d :: ds, _, σ, s, hl, R, r, q => by
    cases r with
    | cons r1 r2 =>
      rename_i v vs
      refine ⟨v, vs, rfl, gIds_run is ds vs (σ.set i (some v)) (s.set i (.sh d)) (by simpa using hl) (R.setSh r1 i) r2 fun σ2 R2 w2 o2 => ?_⟩
      refine q σ2 R2 (fun own h => ?_) fun a h => (o2 a h).setSh
      rw [w2 own fun j hj => h j (List.mem_cons_of_mem _ hj)]
      exact wipe_set σ own i _ (h i (List.mem_cons_self ..))
  | [], _ :: _, _, _, _, hl, _, _, _ => by cases hl
  | _ :: _, [], _, _, _, hl, _, _, _ => by cases hl
theorem r_gtup {is : List Nat} {es : List Expr} {k : Nat} {pos : Pos} (hc : X.calm = true) (h : PGs X es (gIds is)) (hn : (assignEach es X.env).length = is.length) (hst : (assignEach es X.env).findIdx? (·.1) = none) :
    PG X (.Tuple es k pos) (TGof X dA (.tp is)) :=
  (pg_tup hc h hn hst).mono fun v σ H Q ⟨F, s, d, s2, R, r, e, q⟩ => by
    cases d with
    | tuple ds =>
      have e' : (if ds.length = is.length then some { s with env := (is.zip ds).foldl (fun e p => e.set p.1 (some (.sh p.2))) s.env } else none) = some s2 := e
      split at e'
      · rename_i hl
        cases e'
        cases r with
        | tup hq r =>
          exact ⟨_, _, rfl, seqT_mono R.sub hq, by rw [r.length]; exact hl, gIds_run is ds _ σ s hl R r q⟩
      · cases e'
    | _ => cases e
end
end WV
namespace WV
open PySem PySem.Spec PyProof.Rows L2
/-! ## comprehensions -/
abbrev wp (s : Sto) (vs : List Nat) : Sto := { s with env := wipeE s.env vs }
theorem wipe_wipe (σ : SS) (vs : List Nat) : L2.wipe (L2.wipe σ vs) vs = L2.wipe σ vs := by
  apply List.ext_getElem?
  intro j
  rw [wipe_get, wipe_get, wipe_length]
  split
  · rfl
  · rfl
section
variable {K : KW} {dA : DA} {F F0 F1 H H0 H1 : Hp} {σ : SS} {s s0 s1 : Sto} {v : V} {d : D}
theorem Rel.updOther (R : Rel K dA F H σ s) {D : Addr} {o : HO} (h1 : F D = none) (h2 : ¬ OA σ s D) (h3 : ¬ isDA dA D) : Rel K dA F (upd H D o) σ s := by
  refine ⟨fun b u q => ?_, R.len, fun i c h => ?_, R.apart, ?_⟩
  · rw [upd_ne (fun z => by subst z; rw [h1] at q; cases q)]
    exact R.sub b u q
  · obtain ⟨v, e, r⟩ := R.at_ i c h
    refine ⟨v, e, ?_⟩
    cases c with
    | sh d => exact r
    | ow d =>
      obtain ⟨b, rfl, q1, q2, q3⟩ := r
      refine ⟨b, rfl, q1, q2, q3.keep same_refl fun u q => ?_⟩
      rw [upd_ne (fun z => h2 ⟨i, d, h, by rw [← z]; exact e⟩)]
      exact q
    | deal => exact r
    | dcl => exact r
    | scr ns => exact r
  · have hd := R.deal
    cases hdl : s.dl with
    | none => rw [hdl] at hd; exact hd
    | some dl =>
      rw [hdl] at hd
      obtain ⟨a', c', e', ne, q1, q2, q3, q4⟩ := hd
      exact ⟨a', c', e', ne, by rw [upd_ne fun z => h3 ⟨_, _, e', .inl z.symm⟩]; exact q1, by rw [upd_ne fun z => h3 ⟨_, _, e', .inr z.symm⟩]; exact q2, q3, q4⟩
theorem Ext.updOther (x : Ext dA σ s0 F0 H0 s F H) {D : Addr} {o : HO} (h : H0 D = none) : Ext dA σ s0 F0 H0 s F (upd H D o) :=
  ⟨fun a u q n1 n2 => by rw [upd_ne (fun z => by subst z; rw [h] at q; cases q)]; exact x.keep a u q n1 n2,
    fun a q z => by
      by_cases e : a = D
      · subst e; rw [upd_same] at z; cases z
      · rw [upd_ne e] at z; exact x.live a q z,
    x.fs, x.nw, x.ow⟩
/-- back from a block -/
theorem Rel.back {vs : List Nat} (R1 : Rel K dA F1 H1 σ s1) (Rw : Rel K dA F H (L2.wipe σ vs) (wp s vs)) (Ew : Ext dA (L2.wipe σ vs) (wp s1 vs) F1 H1 (wp s vs) F H) :
    Rel K dA F H σ { s with env := restE s.env s1.env vs } ∧ Ext dA σ s1 F1 H1 { s with env := restE s.env s1.env vs } F H := by
  have hl : s.env.length = σ.length := by
    have := Rw.len
    rw [wipeE_length, wipe_length] at this
    exact this
  have back : ∀ (i : Nat) (c : Cell), (restE s.env s1.env vs)[i]? = some (some c) → (i ∈ vs ∧ s1.env[i]? = some (some c)) ∨ (i ∉ vs ∧ s.env[i]? = some (some c)) := fun i c h => by
    rw [restE_get] at h
    split at h
    · rename_i q
      split at h
      · cases e : s1.env[i]? with
        | none => rw [e] at h; cases h
        | some o => rw [e] at h; exact .inl ⟨q, h⟩
      · cases h
    · rename_i q
      exact .inr ⟨q, h⟩
  have out : ∀ (i : Nat) (c : Cell), i ∉ vs → s.env[i]? = some (some c) → (wp s vs).env[i]? = some (some c) := fun i c h q => by
    show (wipeE s.env vs)[i]? = _
    rw [wipeE_get, if_neg h]
    exact q
  have noOA : ∀ (i : Nat) (d : D) (a : Addr), i ∈ vs → s1.env[i]? = some (some (.ow d)) → σ[i]? = some (some (.ref a)) → ¬ OA (L2.wipe σ vs) (wp s1 vs) a := fun i d a hi h e z => by
    obtain ⟨k, d', q1, q2⟩ := z
    have q1' : (wipeE s1.env vs)[k]? = some (some (.ow d')) := q1
    rw [wipeE_get] at q1'
    split at q1'
    · split at q1' <;> cases q1'
    · rename_i hk
      rw [wipe_get, if_neg hk] at q2
      have := R1.apart i k d d' a h q1' e q2
      subst this
      exact hk hi
  refine ⟨⟨Rw.sub, by show (restE s.env s1.env vs).length = _; rw [restE_length]; exact hl, fun i c h => ?_, fun i j d e a h1 h2 h3 h4 => ?_, Rw.deal⟩, ⟨fun a o h n1 n2 => Ew.keep a o h (fun z => n1 z.wipe) n2, Ew.live, Ew.fs, fun a h => ?_, fun a h => ?_⟩⟩
  · rcases back i c h with ⟨q1, q2⟩ | ⟨q1, q2⟩
    · obtain ⟨v, e, r⟩ := R1.at_ i c q2
      refine ⟨v, e, ?_⟩
      cases c with
      | sh d => exact Rep.mono Ew.fs r
      | ow d =>
        obtain ⟨b, rfl, w1, w2, w3⟩ := r
        have nb := noOA i d b q1 q2 e
        refine ⟨b, rfl, ?_, w2, w3.keep Ew.fs fun o q => Ew.keep b o q nb w2⟩
        cases eb : F b with
        | none => rfl
        | some o =>
          rcases Ew.nw b (by rw [eb]; exact fun z => nomatch z) with q | q | q
          · exact absurd w1 q
          · exact absurd q nb
          · exact absurd q w3.there
      | deal => exact r
      | dcl => exact r
      | scr ns =>
        obtain ⟨b, rfl, w1⟩ := r
        exact ⟨b, rfl, seqL_mono Ew.fs w1⟩
    · obtain ⟨v, e, r⟩ := Rw.at_ i c (out i c q1 q2)
      rw [wipe_get, if_neg q1] at e
      exact ⟨v, e, r⟩
  · rcases back i _ h1 with ⟨q1, q2⟩ | ⟨q1, q2⟩
    · rcases back j _ h2 with ⟨q3, q4⟩ | ⟨q3, q4⟩
      · exact R1.apart i j d e a q2 q4 h3 h4
      · exact absurd (Ew.ow a ⟨j, e, out j _ q3 q4, by rw [wipe_get, if_neg q3]; exact h4⟩) (noOA i d a q1 q2 h3)
    · rcases back j _ h2 with ⟨q3, q4⟩ | ⟨q3, q4⟩
      · exact absurd (Ew.ow a ⟨i, d, out i _ q1 q2, by rw [wipe_get, if_neg q1]; exact h3⟩) (noOA j e a q3 q4 h4)
      · exact Rw.apart i j d e a (out i _ q1 q2) (out j _ q3 q4) (by rw [wipe_get, if_neg q1]; exact h3) (by rw [wipe_get, if_neg q3]; exact h4)
  · rcases Ew.nw a h with q | q | q
    · exact .inl q
    · exact .inr (.inl q.wipe)
    · exact .inr (.inr q)
  · obtain ⟨i, d, h1, h2⟩ := h
    rcases back i _ h1 with ⟨q1, q2⟩ | ⟨q1, q2⟩
    · exact ⟨i, d, q2, h2⟩
    · exact (Ew.ow a ⟨i, d, out i _ q1 q2, by rw [wipe_get, if_neg q1]; exact h2⟩).wipe
end
abbrev WF : WX := fun _ _ _ _ => False
def lcBody (ow : List Nat) (t : Tg) (fc : Sto → Out Bool) (fe : Sto → Out RV) (d : D) (s' : Sto) : Out (Option D) := match bindT t d (wp s' ow) with
  | some s2 => (fc s2).bind fun b s3 => if b then (fe s3).bind fun rv s4 => .ok (some rv.dat) s4 else .ok none s3
  | none => .stuck
theorem lc_read {X : Cx} {dA : DA} {W : WX} {fi : Sto → Out (List D)} {fc : Sto → Out Bool} {fe : Sto → Out RV} {t : Tg} {ow : List Nat} (ht : ∀ i ∈ t.ids, i ∈ ow) (σ : SS) (H : Hp) (Q : VK)
    (h : TEof X dA W (fun s => (fi s).bind fun items s1 => (lcLoop (lcBody ow t fc fe) items [] s1).bind fun ds s2 => .ok (.fr (.list ds)) { s2 with env := restE s2.env s1.env ow }) σ H Q) :
    tLc (TIof X dA W fi) (TGof X dA t) (TTof X dA WF fc) (TEof X dA WF fe) ow σ H Q := by
  obtain ⟨F, s, R, h⟩ := h
  refine ⟨F, s, R, PostG.bind h fun items s1 J F1 H1 _ R1 x1 itok h => ?_⟩
  intro D hD
  -- D stands apart
  have nOA : ∀ {s' : Sto}, Ext dA (L2.wipe σ ow) (wp s1 ow) F1 H1 s' F1 H1 → True := fun _ => trivial
  have dOA : ¬ OA (L2.wipe σ ow) (wp s1 ow) D := fun z => (R1.oa z.wipe).2.2 hD
  have dDA : ¬ isDA dA D := fun z => (R1.da z).2 hD
  have dF : F1 D = none := none_of_same R1.sub hD
  let Inv' : Nat → Hp → Prop := fun i H => i ≤ items.length ∧ ∃ F s acc avs, Rel X.KW dA F H (L2.wipe σ ow) (wp s ow) ∧ Ext dA (L2.wipe σ ow) (wp s1 ow) F1 H1 (wp s ow) F H ∧ H D = some (.lst avs) ∧ RepA X.KW F avs acc ∧ F D = none ∧
    PostE X dA W σ s1 F1 H1 (fun _ => Q) ((lcLoop (lcBody ow t fc fe) (items.drop i) acc s).bind fun ds s2 => .ok (.fr (.list ds)) { s2 with env := restE s2.env s1.env ow })
  refine ⟨fun i m H => m = items.length - i ∧ Inv' i H, ⟨items.length, by simp, Nat.zero_le _, F1, s1, [], [], ?_, ?_, upd_same, .nil, dF, h⟩, ?_⟩
  · exact (R1.wipe ow).newF (NewF.own R1.sub hD)
  · exact Ext.ofNew (NewF.own R1.sub hD)
  rintro i m H ⟨rfl, hle, F, s, acc, avs, Rw, Ew, hDH, ra, hFD, h⟩
  have ok := itok i F H Ew.fs Rw.sub
  by_cases hi : i < items.length
  · obtain ⟨hgo, hyld⟩ := ok.1 hi
    refine .inr ⟨hgo, fun H' => Inv' (i + 1) H', fun H' p => ⟨items.length - (i + 1), by omega, rfl, p⟩, fun x H' hy => ?_⟩
    obtain ⟨F2, d, n, ed, rd⟩ := hyld x H' hy
    have edr : items.drop i = d :: items.drop (i + 1) := by
      obtain ⟨hlt, e⟩ := List.getElem?_eq_some_iff.mp ed
      rw [List.drop_eq_getElem_cons hlt, e]
    rw [edr] at h
    have R2 := Rw.newF n
    have E2 := Ew.trans (Ext.ofNew (σ := L2.wipe σ ow) (s := wp s ow) n)
    have hD2 : H' D = some (.lst avs) := n.hs _ _ hDH
    have ra2 : RepA X.KW F2 avs acc := ra.mono n.fs
    have unf : ∀ o, lcBody ow t fc fe d s = o → PostE X dA W σ s1 F1 H1 (fun _ => Q) ((match o with
        | .ok (some y) s' => if acc.length < sizeLine then lcLoop (lcBody ow t fc fe) (items.drop (i + 1)) (acc ++ [y]) s' else .stuck
        | .ok none s' => lcLoop (lcBody ow t fc fe) (items.drop (i + 1)) acc s'
        | _ => .stuck).bind fun ds s2 => .ok (.fr (.list ds)) { s2 with env := restE s2.env s1.env ow }) := fun o eo => by
      subst eo
      exact h
    cases eb : bindT t d (wp s ow) with
    | none => exact (unf .stuck (by unfold lcBody; rw [eb])).elim
    | some s2 =>
      have unf2 : ∀ o, ((fc s2).bind fun b s3 => if b then (fe s3).bind fun rv s4 => Out.ok (some rv.dat) s4 else .ok none s3) = o → PostE X dA W σ s1 F1 H1 (fun _ => Q) ((match o with
        | .ok (some y) s' => if acc.length < sizeLine then lcLoop (lcBody ow t fc fe) (items.drop (i + 1)) (acc ++ [y]) s' else .stuck
        | .ok none s' => lcLoop (lcBody ow t fc fe) (items.drop (i + 1)) acc s'
        | _ => .stuck).bind fun ds s2 => .ok (.fr (.list ds)) { s2 with env := restE s2.env s1.env ow }) := fun o eo => unf o (by unfold lcBody; rw [eb]; exact eo)
      refine ⟨F2, wp s ow, d, s2, R2, rd, eb, fun σ2 Rg wg og => ?_⟩
      have ew : L2.wipe σ2 ow = L2.wipe σ ow := by rw [wg ow ht, wipe_wipe]
      refine ⟨ew, F2, s2, Rg, ?_⟩
      have dOA2 : ¬ OA σ2 s2 D := fun z => dOA (E2.ow D (og D z))
      have hF2 : F2 D = none := by
        cases q : F2 D with
        | none => rfl
        | some o =>
          rcases n.nw D (by rw [q]; exact fun z => nomatch z) with w | w
          · exact absurd hFD w
          · rw [hDH] at w; cases w
      -- to the next turn
      have ext_of : ∀ {s3 : Sto} {F3 H3 : Hp}, Ext dA σ2 s2 F2 H' s3 F3 H3 → Ext dA (L2.wipe σ ow) (wp s1 ow) F1 H1 (wp s3 ow) F3 H3 := fun {s3 F3 H3} x3 => by
        refine ⟨fun a o q n1 n2 => x3.keep a o (E2.keep a o q n1 n2) (fun z => n1 (E2.ow a (og a z))) n2, fun a q => x3.live a (E2.live a q), Same.trans' E2.fs x3.fs, fun a q => ?_, fun a q => ?_⟩
        · rcases x3.nw a q with w | w | w
          · exact E2.nw a w
          · exact .inr (.inl (E2.ow a (og a w)))
          · refine .inr (.inr ?_)
            cases e : H1 a with
            | none => rfl
            | some o => exact absurd w (E2.live a (by rw [e]; exact fun z => nomatch z))
        · rw [← ew] at q
          exact E2.ow a (og a (x3.ow a q.wipe))
      have keepD : ∀ {s3 : Sto} {F3 H3 : Hp}, Ext dA σ2 s2 F2 H' s3 F3 H3 → H3 D = some (.lst avs) ∧ F3 D = none := fun {s3 F3 H3} x3 => by
        refine ⟨x3.keep D _ hD2 dOA2 dDA, ?_⟩
        cases q : F3 D with
        | none => rfl
        | some o =>
          rcases x3.nw D (by rw [q]; exact fun z => nomatch z) with w | w | w
          · exact absurd hF2 w
          · exact absurd w dOA2
          · rw [hD2] at w; cases w
      cases ec : fc s2 with
      | stuck => exact (unf2 .stuck (by rw [ec]; rfl)).elim
      | exc c s' => exact (unf2 (.exc c s') (by rw [ec]; rfl)).elim
      | ok b s3 =>
        intro c F3 H3 R3 x3 ecb
        subst ecb
        obtain ⟨kD, kF⟩ := keepD x3
        cases c with
        | false =>
          rw [if_neg Bool.false_ne_true]
          have h3 := unf2 (.ok none s3) (by rw [ec]; rfl)
          have R3w := R3.wipe ow
          rw [ew] at R3w
          exact ⟨by omega, F3, s3, acc, avs, R3w, ext_of x3, kD, ra2.mono x3.fs, kF, h3⟩
        | true =>
          rw [if_pos rfl]
          refine ⟨F3, s3, R3, ?_⟩
          cases ee : fe s3 with
          | stuck => exact (unf2 .stuck (by simp [ec, Out.bind, ee])).elim
          | exc c s' => exact (unf2 (.exc c s') (by simp [ec, Out.bind, ee])).elim
          | ok rv s4 =>
            have h4 := unf2 (.ok (some rv.dat) s4) (by simp [ec, Out.bind, ee])
            intro v F4 H4 R4 x4 r4
            obtain ⟨F5, R5, x5, r5, _⟩ := r4.freeze R3 R4 x4
            have x35 := x3.trans x5
            obtain ⟨kD5, kF5⟩ := keepD x35
            have h4' : PostE X dA W σ s1 F1 H1 (fun _ => Q) ((if acc.length < sizeLine then lcLoop (lcBody ow t fc fe) (items.drop (i + 1)) (acc ++ [rv.dat]) s4 else .stuck).bind fun ds s2 => .ok (.fr (.list ds)) { s2 with env := restE s2.env s1.env ow }) := h4
            split at h4'
            · rename_i hz
              have dOA4 : ¬ OA σ2 s4 D := fun z => dOA2 (x35.ow D z)
              refine ⟨avs, kD5, by rw [ra.length]; exact hz, by omega, F5, s4, acc ++ [rv.dat], avs ++ [v], ?_, (ext_of x35).updOther hD, upd_same, (ra2.mono x35.fs).append (.cons r5 .nil), kF5, h4'⟩
              have R5w := (R5.updOther (o := .lst (avs ++ [v])) kF5 dOA4 dDA).wipe ow
              rw [ew] at R5w
              exact R5w
            · exact h4'.elim
  · have ei : i = items.length := by omega
    subst ei
    refine .inl ⟨ok.2 (Nat.le_refl _), ?_⟩
    rw [List.drop_length] at h
    have h' : PostE X dA W σ s1 F1 H1 (fun _ => Q) (.ok (.fr (.list acc)) { s with env := restE s.env s1.env ow }) := h
    obtain ⟨Rb, Eb⟩ := R1.back Rw Ew
    exact h' (.ref D) F H Rb Eb ⟨D, rfl, hFD, hD, avs, hDH, ra⟩
section
variable {X : Cx} {dA : DA} {W : WX} {fi : Sto → Out (List D)} {fc : Sto → Out Bool} {fe : Sto → Out RV} {t : Tg} {elt tg iter : Expr} {ifs : List Expr} {scope : Scope} {own : List (Str × Nat)} {pos : Pos}
theorem r_lc (hc : X.calm = true) (hN : X.N.Nodup) (ht : ∀ i ∈ t.ids, i ∈ own.map (·.2)) (hi : PI X tg iter (TIof X dA W fi)) (ok : BlkOk X.N X.env.scope scope own)
    (hg : ∀ (s : Shared) (H : Hp) (C : Addr) (cl : List (Str × Addr)) (fp : List Addr), PG (X.blk s H scope (compEnvC scope cl C X.env) fp) tg (TGof (X.blk s H scope (compEnvC scope cl C X.env) fp) dA t))
    (htt : ∀ (s : Shared) (H : Hp) (C : Addr) (cl : List (Str × Addr)) (fp : List Addr), PTs (X.blk s H scope (compEnvC scope cl C X.env) fp) ifs (TTof (X.blk s H scope (compEnvC scope cl C X.env) fp) dA WF fc))
    (he : ∀ (s : Shared) (H : Hp) (C : Addr) (cl : List (Str × Addr)) (fp : List Addr), PE (X.blk s H scope (compEnvC scope cl C X.env) fp) elt (TEof (X.blk s H scope (compEnvC scope cl C X.env) fp) dA WF fe)) (hs : ∀ x, foldedSetIterable iter X.env x = pure x) :
    PE X (.ListComp elt [⟨tg, iter, ifs, 0⟩] scope pos) (TEof X dA W fun s => (fi s).bind fun items s1 => (lcLoop (lcBody (own.map (·.2)) t fc fe) items [] s1).bind fun ds s2 => .ok (.fr (.list ds)) { s2 with env := restE s2.env s1.env (own.map (·.2)) }) :=
  (pe_lc (g := TGof X dA t) (tt := TTof X dA WF fc) (te := TEof X dA WF fe) hc hN hi ok hg htt he hs).mono fun σ H Q h => lc_read ht σ H Q h
end
end WV
namespace WV
open PySem PySem.Spec PyProof.Rows L2
/-! ## statements -/
structure JJ (K : KW) (dA : DA) (F0 H0 F H : Hp) (σ : SS) (s : Sto) : Prop where
  rel : Rel K dA F H σ s
  k0 : ∀ a o, H0 a = some o → ¬ isDA dA a → H a = some o
  l0 : ∀ a, H0 a ≠ none → H a ≠ none
  f0 : Same F0 F
  n0 : ∀ a, F a ≠ none → F0 a ≠ none ∨ H0 a = none
  o0 : ∀ a, OA σ s a → H0 a = none
section
variable {K : KW} {dA : DA} {F0 H0 F F' F1 F2 H H' H1 H2 : Hp} {σ : SS} {s s' s1 s2 : Sto} {v : V} {rv : RV} {d : D}
theorem live_none (l : ∀ a, H a ≠ none → H' a ≠ none) {a : Addr} (h : H' a = none) : H a = none := by
  cases e : H a with
  | none => rfl
  | some o => exact absurd h (l a (by rw [e]; exact fun z => nomatch z))
theorem JJ.ext (J : JJ K dA F0 H0 F H σ s) (R : Rel K dA F' H' σ s') (x : Ext dA σ s F H s' F' H') : JJ K dA F0 H0 F' H' σ s' := by
  refine ⟨R, fun a o h n => x.keep a o (J.k0 a o h n) (fun z => ?_) n, fun a h => x.live a (J.l0 a h), Same.trans' J.f0 x.fs, fun a h => ?_, fun a h => J.o0 a (x.ow a h)⟩
  · rw [J.o0 a z] at h; cases h
  · rcases x.nw a h with q | q | q
    · exact J.n0 a q
    · exact .inr (J.o0 a q)
    · exact .inr (live_none J.l0 q)
/-- another baseline -/
theorem JJ.rebase (J : JJ K dA F0 H0 F H σ s) : JJ K dA F H0 F H σ s := ⟨J.rel, J.k0, J.l0, same_refl, fun _ h => .inl h, J.o0⟩
theorem JJ.unbase {σ' : SS} (J : JJ K dA F0 H0 F H σ s) (J' : JJ K dA F H0 F' H' σ' s') : JJ K dA F0 H0 F' H' σ' s' :=
  ⟨J'.rel, J'.k0, J'.l0, Same.trans' J.f0 J'.f0, fun a h => (J'.n0 a h).elim (J.n0 a) .inr, J'.o0⟩
theorem JJ.newF (J : JJ K dA F0 H0 F H σ s) (n : NewF F H F' H') : JJ K dA F0 H0 F' H' σ s := J.ext (J.rel.newF n) (Ext.ofNew n)
theorem JJ.setSh (J : JJ K dA F0 H0 F H σ s) (r : Rep K F v d) (i : Nat) : JJ K dA F0 H0 F H (σ.set i (some v)) (s.set i (.sh d)) :=
  ⟨J.rel.setSh r i, J.k0, J.l0, J.f0, J.n0, fun a h => J.o0 a h.setSh⟩
/-- a result is stored. Hb: what was ahead of it -/
theorem JJ.setRV {Hb : Hp} (J : JJ K dA F0 H0 F H σ s) (l : ∀ a, H0 a ≠ none → Hb a ≠ none) (od : ∀ a, OA σ s a ∨ isDA dA a → Hb a ≠ none) (r : RRep K Hb F H v rv) (i : Nat) : JJ K dA F0 H0 F H (σ.set i (some v)) (s.set i rv.cell) := by
  cases rv with
  | sh d => exact J.setSh r i
  | fr d =>
    obtain ⟨a, rfl, h1, h2, h3⟩ := r
    refine ⟨J.rel.setOw h1 (fun z => od a (.inr z) h2) (fun z => od a (.inl z) h2) h3 i, J.k0, J.l0, J.f0, J.n0, fun b h => ?_⟩
    rcases OA.setOw h with q | rfl
    · exact J.o0 b q
    · exact live_none l h2
/-- a result stays through what follows -/
theorem RRep.ext {Hb : Hp} (R : Rel K dA F H σ s) (od : ∀ a, OA σ s a ∨ isDA dA a → Hb a ≠ none) (r : RRep K Hb F H v rv) (x : Ext dA σ s F H s' F' H') : RRep K Hb F' H' v rv := by
  cases rv with
  | sh d => exact Rep.mono x.fs r
  | fr d =>
    obtain ⟨a, rfl, h1, h2, h3⟩ := r
    have n1 : ¬ OA σ s a := fun z => od a (.inl z) h2
    have n2 : ¬ isDA dA a := fun z => od a (.inr z) h2
    refine ⟨a, rfl, ?_, h2, h3.keep x.fs fun o e => x.keep a o e n1 n2⟩
    cases e : F' a with
    | none => rfl
    | some o =>
      rcases x.nw a (by rw [e]; exact fun z => nomatch z) with q | q | q
      · exact absurd h1 q
      · exact absurd q n1
      · exact absurd q h3.there
theorem Rel.od (R : Rel K dA F H σ s) : ∀ a, OA σ s a ∨ isDA dA a → H a ≠ none := fun a h => h.elim (fun z => (R.oa z).2.2) fun z => (R.da z).2
theorem Ext.od (x : Ext dA σ s F H s' F' H') (R : Rel K dA F H σ s) : ∀ a, OA σ s' a ∨ isDA dA a → H a ≠ none := fun a h => h.elim (fun z => (R.oa (x.ow a z)).2.2) fun z => (R.da z).2
/-- several results -/
def isFr : RV → Bool
  | .fr _ => true
  | .sh _ => false
inductive RReps (K : KW) (F H : Hp) : Hp → List V → List RV → Prop
  | nil {Hb : Hp} : RReps K F H Hb [] []
  | cons {Hb Hc : Hp} {v : V} {rv : RV} {vs : List V} {rvs : List RV} : RRep K Hb F H v rv → (∀ a, Hb a ≠ none → Hc a ≠ none) → (∀ a, v = .ref a → isFr rv = true → Hc a ≠ none) → RReps K F H Hc vs rvs → RReps K F H Hb (v :: vs) (rv :: rvs)
theorem RReps.length : ∀ {Hb : Hp} {vs : List V} {rvs : List RV}, RReps K F H Hb vs rvs → vs.length = rvs.length
  | _, _, _, .nil => rfl
  | _, _, _, .cons _ _ _ r => by rw [List.length_cons, List.length_cons, RReps.length r]
theorem gIdsR {dA : DA} {F0 H0 F H : Hp} {Q : SS → Hp → Prop} : ∀ (is : List Nat) (rvs : List RV) (vs : List V) (σ : SS) (s : Sto) (Hb : Hp), rvs.length = is.length → JJ K dA F0 H0 F H σ s → (∀ a, H0 a ≠ none → Hb a ≠ none) → (∀ a, OA σ s a ∨ isDA dA a → Hb a ≠ none) → RReps K F H Hb vs rvs →
    (∀ σ2, JJ K dA F0 H0 F H σ2 (setAll is rvs s) → Q σ2 H) → gIds is vs σ H Q
  | [], [], _, σ, s, _, _, J, _, _, r, q => by
    cases r
    exact ⟨rfl, q σ J⟩
  | i :: is, rv :: rvs, _, σ, s, Hb, hl, J, l, od, r, q => by
    cases r with
    | cons r1 l1 f1 r2 =>
      rename_i Hc v vs
      refine ⟨v, vs, rfl, gIdsR is rvs vs (σ.set i (some v)) (s.set i rv.cell) Hc (by simpa using hl) (J.setRV l od r1 i) (fun a h => l1 a (l a h)) (fun a h => ?_) r2 q⟩
      rcases h with h | h
      · cases rv with
        | sh d => exact l1 a (od a (.inl h.setSh))
        | fr d =>
          obtain ⟨b, rfl, _⟩ := r1
          rcases OA.setOw h with w | rfl
          · exact l1 a (od a (.inl w))
          · exact f1 _ rfl rfl
      · exact l1 a (od a (.inr h))
  | [], _ :: _, _, _, _, _, hl, _, _, _, _, _ => by cases hl
  | _ :: _, [], _, _, _, _, hl, _, _, _, _, _ => by cases hl
end
def PostS (X : Cx) (dA : DA) (W : WX) (F0 H0 : Hp) (D : Ends) : Out Fl → Prop
  | .ok .nx s' => ∀ F' H' σ', JJ X.KW dA F0 H0 F' H' σ' s' → D.nx σ' H'
  | .ok .brk s' => ∀ F' H' σ', JJ X.KW dA F0 H0 F' H' σ' s' → D.bk σ' H'
  | .ok .cnt s' => ∀ F' H' σ', JJ X.KW dA F0 H0 F' H' σ' s' → D.ct σ' H'
  | .ok (.ret rv) s' => ∀ v F' H' σ', JJ X.KW dA F0 H0 F' H' σ' s' → RRep X.KW H0 F' H' v rv → D.rt v H'
  | .exc c s' => ∀ C F' H' σ', X.mg c = some (.ref C) → JJ X.KW dA F0 H0 F' H' σ' s' → W (.ref C) none σ' H'
  | .stuck => False
def TSof (X : Cx) (dA : DA) (W : WX) (f : Sto → Out Fl) : TS := fun D σ H => ∃ F0 H0 F s, JJ X.KW dA F0 H0 F H σ s ∧ PostS X dA W F0 H0 D (f s)
section
variable {X : Cx} {dA : DA} {W : WX} {F0 H0 F H : Hp} {σ : SS} {s : Sto} {α γ : Type}
theorem PostG.bindS {G1 : α → γ → Hp → Prop} {o : Out α} {f : α → Sto → Out Fl} {D : Ends} {Q1 : γ → Hp → Prop} (J : JJ X.KW dA F0 H0 F H σ s) (h : PostS X dA W F0 H0 D (o.bind f))
    (k : ∀ a s1 v F1 H1, o = .ok a s1 → JJ X.KW dA F0 H0 F1 H1 σ s1 → Ext dA σ s F H s1 F1 H1 → G1 a v F1 → PostS X dA W F0 H0 D (f a s1) → Q1 v H1) : PostG X dA W σ s F H G1 Q1 o := by
  cases o with
  | stuck => exact h
  | exc c s' => exact fun C F' H' e R x => h C F' H' σ e (J.ext R x)
  | ok a s1 => exact fun v F1 H1 R1 x1 g1 => k a s1 v F1 H1 rfl (J.ext R1 x1) x1 g1 h
theorem PostE.bindS {o : Out RV} {f : RV → Sto → Out Fl} {D : Ends} {Q : VK} (J : JJ X.KW dA F0 H0 F H σ s) (h : PostS X dA W F0 H0 D (o.bind f))
    (k : ∀ rv s1 v F1 H1, o = .ok rv s1 → JJ X.KW dA F0 H0 F1 H1 σ s1 → Ext dA σ s F H s1 F1 H1 → RRep X.KW H F1 H1 v rv → PostS X dA W F0 H0 D (f rv s1) → Q v H1) : PostE X dA W σ s F H (fun _ => Q) o := by
  cases o with
  | stuck => exact h
  | exc c s' => exact fun C F' H' e R x => h C F' H' σ e (J.ext R x)
  | ok a s1 => exact fun v F1 H1 R1 x1 g1 => k a s1 v F1 H1 rfl (J.ext R1 x1) x1 g1 h
end
section
variable {X : Cx} {dA : DA} {W : WX} {f g : Sto → Out RV} {fa : Sto → Out Opd} {fs gs : Sto → Out Fl} {e : Expr} {es : List Expr} {pos : Pos}
def nextOr (g : Sto → Out Fl) (f : Fl) (s' : Sto) : Out Fl := match f with
    | .nx => g s'
    | .brk => .ok .brk s'
    | .cnt => .ok .cnt s'
    | .ret rv => .ok (.ret rv) s'
theorem r_snil {C : Cal} : PSs X [] (TSof X dA W (evSs C .nil)) := pss_nil.mono fun D σ H ⟨F0, H0, F, s, J, h⟩ => h F H σ J
theorem seq_read {D : Ends} {σ : SS} {H : Hp} (h : TSof X dA W (fun s => (fs s).bind (nextOr gs)) D σ H) : TSof X dA W fs { D with nx := TSof X dA W gs D } σ H := by
  obtain ⟨F0, H0, F, s, J, h⟩ := h
  refine ⟨F0, H0, F, s, J, ?_⟩
  revert h
  dsimp only
  cases fs s with
  | stuck => exact fun h => h
  | exc c s' => exact fun h => h
  | ok fl s' =>
    cases fl with
    | nx => exact fun h F' H' σ' J' => ⟨F0, H0, F', s', J', h⟩
    | brk => exact fun h => h
    | cnt => exact fun h => h
    | ret rv => exact fun h => h
theorem r_scons {st : Stmt} {rest : List Stmt} (h1 : PS X st (TSof X dA W fs)) (h2 : PSs X rest (TSof X dA W gs)) : PSs X (st :: rest) (TSof X dA W fun s => (fs s).bind (nextOr gs)) :=
  (pss_cons h1 h2).mono fun D σ H h => seq_read h
/-! ### storing -/
theorem asg_read {i : Nat} {te : TE} (h : ∀ σ H Q, TEof X dA W f σ H Q → te σ H Q) : ∀ D σ H, TSof X dA W (fun s => (f s).bind fun r s1 => .ok .nx (s1.set i r.cell)) D σ H → tAsg te (gName i) D σ H :=
  fun D σ H ⟨F0, H0, F, s, J, hp⟩ => h σ H _ ⟨F, s, J.rel, PostE.bindS J hp fun rv s1 v F1 H1 _ J1 x1 r1 hq => hq F1 H1 _ (J1.setRV J.l0 (x1.od J.rel) r1 i)⟩
theorem r_asg {i : Nat} {x : Str} {p : Pos} (hN : X.N.Nodup) (hi : X.N[i]? = some x) (hx : Loc X.env.scope x) (he : PE X e (TEof X dA W f)) (hs : swapsWith e (some (.Name x p)) pos.line X.env = pure false) (hf : X.fn x = true ∨ X.env.scope.names.lookup x = some .local) :
    PS X (.Assign [.Name x p] e pos) (TSof X dA W fun s => (f s).bind fun r s1 => .ok .nx (s1.set i r.cell)) :=
  (ps_set hN hi hx he hs hf).mono (asg_read fun _ _ _ h => h)
theorem r_asgLc {fi : Sto → Out (List D)} {fc : Sto → Out Bool} {fe : Sto → Out RV} {t : Tg} {elt tg iter : Expr} {ifs : List Expr} {scope : Scope} {own : List (Str × Nat)} {i : Nat} {y : Str} {py spos : Pos}
    (hc : X.calm = true) (hN : X.N.Nodup) (hy : X.N[i]? = some y) (hyl : X.env.scope.names.lookup y = some .local) (hsw : swapsWith (.ListComp elt [⟨tg, iter, ifs, 0⟩] scope pos) (some (.Name y py)) spos.line X.env = pure true)
    (ht : ∀ i ∈ t.ids, i ∈ own.map (·.2)) (hi : PI X tg iter (TIof X dA W fi)) (ok : BlkOk X.N X.env.scope scope own)
    (hg : ∀ (s : Shared) (H : Hp) (C : Addr) (cl : List (Str × Addr)) (fp : List Addr), PG (X.blk s H scope (compEnvC scope cl C X.env) fp) tg (TGof (X.blk s H scope (compEnvC scope cl C X.env) fp) dA t))
    (htt : ∀ (s : Shared) (H : Hp) (C : Addr) (cl : List (Str × Addr)) (fp : List Addr), PTs (X.blk s H scope (compEnvC scope cl C X.env) fp) ifs (TTof (X.blk s H scope (compEnvC scope cl C X.env) fp) dA WF fc))
    (he : ∀ (s : Shared) (H : Hp) (C : Addr) (cl : List (Str × Addr)) (fp : List Addr), PE (X.blk s H scope (compEnvC scope cl C X.env) fp) elt (TEof (X.blk s H scope (compEnvC scope cl C X.env) fp) dA WF fe)) (hs : ∀ x, foldedSetIterable iter X.env x = pure x) :
    PS X (.Assign [.Name y py] (.ListComp elt [⟨tg, iter, ifs, 0⟩] scope pos) spos) (TSof X dA W fun s => ((fi s).bind fun items s1 => (lcLoop (lcBody (own.map (·.2)) t fc fe) items [] s1).bind fun ds s2 => Out.ok (RV.fr (.list ds)) { s2 with env := restE s2.env s1.env (own.map (·.2)) }).bind fun (r : RV) s1 => .ok .nx (s1.set i r.cell)) :=
  (ps_setLc (g := TGof X dA t) (tt := TTof X dA WF fc) (te := TEof X dA WF fe) hc hN hy hyl hsw hi ok hg htt he hs).mono (asg_read fun σ H Q h => lc_read ht σ H Q h)
/-! ### several at once -/
def TRof (X : Cx) (dA : DA) (W : WX) (f : Sto → Out (List RV)) : TA := fun σ H Q => ∃ F s, Rel X.KW dA F H σ s ∧ (match f s with
  | .ok rvs s' => ∀ vs F' H', Rel X.KW dA F' H' σ s' → Ext dA σ s F H s' F' H' → RReps X.KW F' H' H vs rvs → Q vs H'
  | .exc c s' => ∀ C F' H', X.mg c = some (.ref C) → Rel X.KW dA F' H' σ s' → Ext dA σ s F H s' F' H' → W (.ref C) none σ H'
  | .stuck => False)
theorem r_rnil {C : Cal} : PA X [] (TRof X dA W (evR C .nil)) :=
  pa_nil.mono fun σ H Q ⟨F, s, R, h⟩ => h [] F H R Ext.refl .nil
theorem r_rcons {gr : Sto → Out (List RV)} (ha : PE X e (TEof X dA W f)) (hb : PA X es (TRof X dA W gr)) (hs : starEach (e :: es) X.env = (false, eval e X.env) :: starEach es X.env := by rfl) :
    PA X (e :: es) (TRof X dA W fun s => (f s).bind fun r s1 => (gr s1).bind fun rs s2 => .ok (r :: rs) s2) := by
  refine (pa_cons ha hb hs).mono fun σ H Q ⟨F, s, R, h⟩ => ⟨F, s, R, ?_⟩
  dsimp only at h
  cases ef : f s with
  | stuck => rw [ef] at h; exact h
  | exc c s' => rw [ef] at h; exact h
  | ok r s1 =>
    rw [ef] at h
    intro v F1 H1 R1 x1 r1
    refine ⟨F1, s1, R1, ?_⟩
    have h1 : (match (gr s1).bind fun rs s2 => Out.ok (r :: rs) s2 with
      | .ok rvs s' => ∀ vs F' H', Rel X.KW dA F' H' σ s' → Ext dA σ s F H s' F' H' → RReps X.KW F' H' H vs rvs → Q vs H'
      | .exc c s' => ∀ C F' H', X.mg c = some (.ref C) → Rel X.KW dA F' H' σ s' → Ext dA σ s F H s' F' H' → W (.ref C) none σ H'
      | .stuck => False) := h
    cases eg : gr s1 with
    | stuck => rw [eg] at h1; exact h1
    | exc c s' => rw [eg] at h1; exact fun C F' H' e R' x' => h1 C F' H' e R' (x1.trans x')
    | ok rs s2 =>
      rw [eg] at h1
      intro vs F2 H2 R2 x2 rr
      refine h1 (v :: vs) F2 H2 R2 (x1.trans x2) (.cons (r1.ext R1 (x1.od R) x2) x1.live (fun a e hf => ?_) rr)
      cases r with
      | sh d => cases hf
      | fr d =>
        obtain ⟨b, e', _, _, q⟩ := r1
        rw [e'] at e
        cases e
        exact q.there
theorem par_read {is : List Nat} {fr : Sto → Out (List RV)} {ta : TA} {k : List V → Hp → SS → Ends → Prop} (hk : ∀ (vs : List V) (rvs : List RV) σ H D, vs.length = rvs.length → rvs.length = is.length → gIds is vs σ H D.nx → k vs H σ D) (ha : ∀ σ H Q, TRof X dA W fr σ H Q → ta σ H Q) :
    ∀ D σ H, TSof X dA W (fun s => (fr s).bind fun rs s1 => if rs.length = is.length then .ok .nx (setAll is rs s1) else .stuck) D σ H → ta σ H fun vs H1 => k vs H1 σ D := fun D σ H ⟨F0, H0, F, s, J, hp⟩ => ha σ H _ ⟨F, s, J.rel, by
  dsimp only at hp
  cases ef : fr s with
  | stuck => rw [ef] at hp; exact hp
  | exc c s' => rw [ef] at hp; exact fun C F' H' e R x => hp C F' H' σ e (J.ext R x)
  | ok rvs s1 =>
    rw [ef] at hp
    intro vs F1 H1 R1 x1 rr
    have hp' : PostS X dA W F0 H0 D (if rvs.length = is.length then .ok .nx (setAll is rvs s1) else .stuck) := hp
    split at hp'
    · rename_i hl
      exact hk vs rvs σ H1 D rr.length hl (gIdsR is rvs vs σ s1 H hl (J.ext R1 x1) J.l0 (x1.od J.rel) rr fun σ2 J2 => hp' F1 H1 σ2 J2)
    · exact hp'.elim⟩
theorem r_par2 {i j : Nat} {x y : Str} {a b : Expr} {px py pt : Pos} {kt k2 : Nat} {pt2 : Pos} {fr : Sto → Out (List RV)} (hc : X.calm = true) (hN : X.N.Nodup) (hi : X.N[i]? = some x) (hj : X.N[j]? = some y) (hij : i ≠ j)
    (hx : X.env.scope.names.lookup x = some .local) (hy : X.env.scope.names.lookup y = some .local) (ha : PA X [a, b] (TRof X dA W fr)) (hw : swappedStores [.Tuple [.Name x px, .Name y py] kt pt] (.Tuple [a, b] k2 pt2) X.env = pure (some [x, y]))
    (hs : swapsWithSole [.Tuple [.Name x px, .Name y py] kt pt] (.Tuple [a, b] k2 pt2) pos.line X.env = pure false) :
    PS X (.Assign [.Tuple [.Name x px, .Name y py] kt pt] (.Tuple [a, b] k2 pt2) pos) (TSof X dA W fun s => (fr s).bind fun rs s1 => if rs.length = [i, j].length then .ok .nx (setAll [i, j] rs s1) else .stuck) :=
  (ps_par hc hN hi hj hij hx hy ha hw hs).mono (par_read (k := fun vs H1 σ D => ∃ v w, vs = [v, w] ∧ D.nx ((σ.set i (some v)).set j (some w)) H1) (fun vs rvs σ H D h1 h2 g => by
    obtain ⟨v, r, rfl, w, r2, rfl, rfl, q⟩ := g
    exact ⟨v, w, rfl, q⟩) fun _ _ _ h => h)
theorem r_par3 {i j l : Nat} {x y z : Str} {a b c : Expr} {px py pz pt : Pos} {kt k2 : Nat} {pt2 : Pos} {fr : Sto → Out (List RV)} (hc : X.calm = true) (hN : X.N.Nodup) (hi : X.N[i]? = some x) (hj : X.N[j]? = some y) (hl : X.N[l]? = some z) (hij : i ≠ j) (hil : i ≠ l) (hjl : j ≠ l)
    (hx : X.env.scope.names.lookup x = some .local) (hy : X.env.scope.names.lookup y = some .local) (hz : X.env.scope.names.lookup z = some .local) (ha : PA X [a, b, c] (TRof X dA W fr)) (hw : swappedStores [.Tuple [.Name x px, .Name y py, .Name z pz] kt pt] (.Tuple [a, b, c] k2 pt2) X.env = pure (some [x, y, z]))
    (hs : swapsWithSole [.Tuple [.Name x px, .Name y py, .Name z pz] kt pt] (.Tuple [a, b, c] k2 pt2) pos.line X.env = pure false) :
    PS X (.Assign [.Tuple [.Name x px, .Name y py, .Name z pz] kt pt] (.Tuple [a, b, c] k2 pt2) pos) (TSof X dA W fun s => (fr s).bind fun rs s1 => if rs.length = [i, j, l].length then .ok .nx (setAll [i, j, l] rs s1) else .stuck) :=
  (ps_par3 hc hN hi hj hl hij hil hjl hx hy hz ha hw hs).mono (par_read (k := fun vs H1 σ D => ∃ u v w, vs = [u, v, w] ∧ D.nx (((σ.set i (some u)).set j (some v)).set l (some w)) H1) (fun vs rvs σ H D h1 h2 g => by
    obtain ⟨v, r, rfl, w, r2, rfl, u, r3, rfl, rfl, q⟩ := g
    exact ⟨v, w, u, rfl, q⟩) fun _ _ _ h => h)
/-- through the tuple -/
theorem RReps.newF {K : KW} {F H H' : Hp} (hs : Same H H') : ∀ {Hb : Hp} {vs : List V} {rvs : List RV}, RReps K F H Hb vs rvs → RReps K F H' Hb vs rvs
  | _, _, _, .nil => .nil
  | _, _, _, .cons r l f rr => .cons (by
      rename_i Hc v rv vs rvs
      cases rv with
      | sh d => exact r
      | fr d =>
        obtain ⟨a, e, h1, h2, h3⟩ := r
        exact ⟨a, e, h1, h2, h3.keep same_refl fun o q => hs _ _ q⟩) l f (RReps.newF hs rr)
theorem r_parT {is : List Nat} {ts : List Expr} {kt k2 : Nat} {pt pt2 : Pos} {fr : Sto → Out (List RV)} (hc : X.calm = true) (hz : is.length ≤ sizeLine) (ha : PA X es (TRof X dA W fr)) (h : PGs X ts (gIds is)) (hn : (assignEach ts X.env).length = is.length) (hst : (assignEach ts X.env).findIdx? (·.1) = none)
    (hs : swapsWithSole [.Tuple ts kt pt] (.Tuple es k2 pt2) pos.line X.env = pure false) (hw : swappedStores [.Tuple ts kt pt] (.Tuple es k2 pt2) X.env = pure none) (h1 : (assignEach [.Tuple ts kt pt] X.env).map (·.2) = [assign (.Tuple ts kt pt) X.env]) :
    PS X (.Assign [.Tuple ts kt pt] (.Tuple es k2 pt2) pos) (TSof X dA W fun s => (fr s).bind fun rs s1 => if rs.length = is.length then .ok .nx (setAll is rs s1) else .stuck) :=
  (ps_asg (pe_tup ha) (pg_tup hc h hn hst) hs hw h1).mono fun D σ H ⟨F0, H0, F, s, J, hp⟩ => ⟨F, s, J.rel, by
    dsimp only at hp
    cases ef : fr s with
    | stuck => rw [ef] at hp; exact hp
    | exc c s' => rw [ef] at hp; exact fun C F' H' e R x => hp C F' H' σ e (J.ext R x)
    | ok rvs s1 =>
      rw [ef] at hp
      intro vs F1 H1 R1 x1 rr
      have hp' : PostS X dA W F0 H0 D (if rvs.length = is.length then .ok .nx (setAll is rvs s1) else .stuck) := hp
      split at hp'
      · rename_i hl
        refine ⟨by rw [rr.length, hl]; exact hz, fun p hpn => ⟨p, vs, rfl, SqT.of upd_same, by rw [rr.length]; exact hl, ?_⟩⟩
        have n : NewF F1 H1 F1 (upd H1 p (.tup vs)) := NewF.own R1.sub hpn
        exact gIdsR is rvs vs σ s1 H hl ((J.ext R1 x1).newF n) J.l0 (x1.od J.rel) (rr.newF n.hs) fun σ2 J2 => hp' F1 _ σ2 J2
      · exact hp'.elim⟩
theorem r_unp {is : List Nat} {ts : List Expr} {kt : Nat} {pt : Pos} (he : PE X e (TEof X dA W f)) (hg : PG X (.Tuple ts kt pt) (TGof X dA (.tp is)))
    (hs : swapsWithSole [.Tuple ts kt pt] e pos.line X.env = pure false) (hw : swappedStores [.Tuple ts kt pt] e X.env = pure none) (h1 : (assignEach [.Tuple ts kt pt] X.env).map (·.2) = [assign (.Tuple ts kt pt) X.env]) :
    PS X (.Assign [.Tuple ts kt pt] e pos) (TSof X dA W fun s => (f s).bind fun r s1 => match bindT (.tp is) r.dat s1 with
    | some s2 => .ok .nx s2
    | none => .stuck) :=
  (ps_asg he hg hs hw h1).mono fun D σ H ⟨F0, H0, F, s, J, hp⟩ => ⟨F, s, J.rel, PostE.keep J.rel (PostG.bindS J hp fun r s1 v F1 H1 _ J1 x1 g1 hq => by
    cases eb : bindT (.tp is) r.dat s1 with
    | none => rw [eb] at hq; exact hq.elim
    | some s2 =>
      rw [eb] at hq
      exact ⟨F1, s1, r.dat, s2, J1.rel, g1, eb, fun σ2 R2 _ o2 => hq F1 H1 σ2 ⟨R2, J1.k0, J1.l0, J1.f0, J1.n0, fun a h => J1.o0 a (o2 a h)⟩⟩)⟩
end
end WV
namespace WV
open PySem PySem.Spec PyProof.Rows L2
section
variable {X : Cx} {dA : DA} {W : WX} {f g : Sto → Out RV} {fa : Sto → Out Opd} {fs gs : Sto → Out Fl} {ft : Sto → Out Bool} {fi : Sto → Out (List D)} {e a b c : Expr} {es : List Expr} {pos : Pos}
/-! ### x[i] = e, x op= e, e, return -/
theorem JJ.store {K : KW} {F0 H0 F H : Hp} {σ : SS} {s : Sto} {i : Nat} {ds es : List D} {ax : Addr} {vs : List V} (J : JJ K dA F0 H0 F H σ s) (h : s.env[i]? = some (some (.ow (.list ds)))) (e : σ[i]? = some (some (.ref ax))) (r : RepA K F vs es) :
    JJ K dA F0 H0 F (upd H ax (.lst vs)) σ (s.set i (.ow (.list es))) := by
  obtain ⟨R', x'⟩ := J.rel.store h e r
  exact J.ext R' x'
theorem _root_.L2.PSet.or {t t' : TSet} (h : PSet X t) (h' : PSet X t') : PSet X (fun o i v H Q => t o i v H Q ∨ t' o i v H Q) := by
  intro pins s σ H o i v ov iv u Q I ro ri rv q
  rcases q with q | q
  · exact h pins s σ H o i v ov iv u Q I ro ri rv q
  · exact h' pins s σ H o i v ov iv u Q I ro ri rv q
theorem r_sub {i : Nat} {y : Str} {p tp : Pos} (hu : X.A.units + 65 < cLine) (hd : PE X (.Name y p) (tVar i)) (hi : PE X a (TOof X dA W fa)) (he : PE X e (TEof X dA W f))
    (ha : ∀ v, assign (.Subscript (.Name y p) a tp) X.env v = (do
      let ov ← holding [v] (eval (.Name y p) X.env)
      let iv ← holding [v, ov] (eval a X.env)
      standAt tp
      holding [v, ov, iv] (setItem ov iv v)
      release [v, ov, iv] []))
    (hs : swapsWithSole [.Subscript (.Name y p) a tp] e pos.line X.env = pure false) (hw : swappedStores [.Subscript (.Name y p) a tp] e X.env = pure none) (h1 : (assignEach [.Subscript (.Name y p) a tp] X.env).map (·.2) = [assign (.Subscript (.Name y p) a tp) X.env]) :
    PS X (.Assign [.Subscript (.Name y p) a tp] e pos) (TSof X dA W fun s => (f s).bind fun r s1 => if (getOw s1 i).isNone && (getOd s1 i).isNone then .stuck else (fa s1).bind fun x s2 => subG (getOw s2 i) (getOd s2 i) (x.get s2) i r.dat s2) :=
  (ps_asg he (pg_sub hd hi (PSet.or set_list (set_dict (by omega))) ha) hs hw h1).mono fun D σ H ⟨F0, H0, F, s, J, hp⟩ => ⟨F, s, J.rel, PostE.keep J.rel (PostG.bindS J hp fun r s1 v F1 H1 _ J1 x1 g1 hq => by
    split at hq
    · exact hq.elim
    · rename_i hn
      have hax : ∃ ax, σ[i]? = some (some (.ref ax)) := by
        cases eo : getOw s1 i with
        | some ds0 =>
          obtain ⟨ax, vs0, ea, hh, _⟩ := J1.rel.lst eo
          exact ⟨ax, ea⟩
        | none =>
          cases ed : getOd s1 i with
          | some kvs =>
            obtain ⟨ax, ks, vs, ea, _⟩ := J1.rel.dct ed
            exact ⟨ax, ea⟩
          | none => rw [eo, ed] at hn; exact absurd rfl hn
      obtain ⟨ax, ea⟩ := hax
      refine ⟨_, ea, F1, s1, J1.rel, PostG.bindS J1 hq fun x s2 w F2 H2 _ J2 x2 g2 hq => ?_⟩
      unfold subG at hq
      split at hq
      · rename_i ds k eo2 ex
        cases ek : ixN ds.length k with
        | none => rw [ek] at hq; exact hq.elim
        | some j =>
          rw [ek] at hq
          obtain ⟨ax2, vs, e2, hh2, r2⟩ := J2.rel.lst eo2
          rw [ea] at e2
          cases e2
          have ei := (g2.brep J2.rel same_refl ex).int
          subst ei
          exact .inl ⟨ax, vs, k, j, rfl, rfl, hh2, by rw [r2.length]; exact ek, hq F2 _ σ (J2.store (getOw_eq eo2) ea (r2.set j (g1.mono x2.fs)))⟩
      · rename_i kvs k eo2 ed2 ex
        split at hq
        · rename_i q ekv
          split at hq
          · rename_i hz
            obtain ⟨ax2, ks, vs, e2, hh2, h3, r2⟩ := J2.rel.dct ed2
            rw [ea] at e2
            cases e2
            have ei := (g2.brep J2.rel same_refl ex).key ekv
            subst ei
            have hl : (ks.zip vs).length < sizeLine := by
              have h1 := r2.length
              rw [List.length_map] at h1
              rw [List.length_zip]
              omega
            obtain ⟨ks', vs', z1, z2, z3⟩ := put_zip h3 r2 q (g1.mono x2.fs)
            refine .inr ⟨ax, _, rfl, DPut.k hh2 hl, ?_⟩
            rw [z1]
            obtain ⟨R', x'⟩ := J2.rel.storeD (getOd_eq ed2) ea (ob := .dK (ks'.zip vs')) (d1 := .dict (dPut kvs q r.dat)) ⟨ks', vs', upd_same, z2, z3⟩
            exact hq F2 _ σ (J2.ext R' x')
          · exact hq.elim
        · exact hq.elim
      · exact hq.elim)⟩
/-- op= of ints -/
def AugOk (X : Cx) (op : Operator) (g : D → D → Option RV) : Prop := ∃ r, PIp X op r ∧ ∀ (i j : Int) (rv : RV), g (.int i) (.int j) = some rv → ∃ n, rv = .sh (.int n) ∧ ∀ (H : Hp) (Q : VK), Q (.int n) H → r (.int i) (.int j) H Q
theorem aug_add : AugOk X .Add (binG .add) := ⟨_, ip_add, fun i j rv h => by cases h; exact ⟨i + j, rfl, fun H Q q => ⟨i, j, rfl, rfl, q⟩⟩⟩
theorem aug_sub : AugOk X .Sub (binG .sub) := ⟨_, ip_sub, fun i j rv h => by cases h; exact ⟨i - j, rfl, fun H Q q => ⟨i, j, rfl, rfl, q⟩⟩⟩
theorem aug_mul : AugOk X .Mult (binG .mul) := ⟨_, iop_mul, fun i j rv h => by
  simp only [binG, gMul] at h
  split at h
  · rename_i c
    cases h
    exact ⟨i * j, rfl, fun H Q q => ⟨i, j, rfl, rfl, cMul_ok c, q⟩⟩
  · cases h⟩
theorem r_aug {i : Nat} {x : Str} {p : Pos} {op : Operator} {gb : D → D → Option RV} (hN : X.N.Nodup) (hi : X.N[i]? = some x) (hx : Loc X.env.scope x) (ho : AugOk X op gb) (he : PE X e (TOof X dA W fa)) (hf : X.fn x = true ∨ X.env.scope.names.lookup x = some .local) :
    PS X (.AugAssign (.Name x p) op e pos) (TSof X dA W fun s => if ((Opd.slot i).get s).isNone then .stuck else (fa s).bind fun y s1 => match (Opd.slot i).get s1, y.get s1 with
    | some (.int a), some (.int b) => (match gb (.int a) (.int b) with
      | some r => .ok .nx (s1.set i r.cell)
      | none => .stuck)
    | _, _ => .stuck) := by
  obtain ⟨r, h1, h2⟩ := ho
  refine (ps_aug hN hi hx he h1 hf).mono fun D σ H ⟨F0, H0, F, s, J, hp⟩ => ?_
  dsimp only at hp
  split at hp
  · exact hp.elim
  · rename_i hn
    obtain ⟨v, ev⟩ := Opd.slot_some (i := i) J.rel (by
      cases q : (Opd.slot i).get s with
      | none => rw [q] at hn; exact absurd rfl hn
      | some d => rfl)
    refine ⟨v, ev, F, s, J.rel, PostG.bindS J hp fun y s1 w F1 H1 _ J1 x1 g1 hq => ?_⟩
    split at hq
    · rename_i i' j' q1 q2
      have b1 := (ORep.brep (v := v) (o := .slot i) J1.rel (same_refl (H := F1)) ev q1).int
      have b2 := (g1.brep J1.rel same_refl q2).int
      subst b1
      subst b2
      cases eg : gb (.int i') (.int j') with
      | none => rw [eg] at hq; exact hq.elim
      | some rv =>
        rw [eg] at hq
        obtain ⟨n, rfl, hr⟩ := h2 i' j' rv eg
        exact hr H1 _ (hq F1 H1 _ (J1.setSh (.int n) i))
    · exact hq.elim
theorem r_exp (he : PE X e (TEof X dA W f)) (hs : swapsWith e none pos.line X.env = pure false) : PS X (.Expr e pos) (TSof X dA W fun s => (f s).bind fun _ s1 => .ok .nx s1) :=
  (ps_expr he hs).mono fun D σ H ⟨F0, H0, F, s, J, hp⟩ => ⟨F, s, J.rel, PostE.bindS J hp fun rv s1 v F1 H1 _ J1 x1 r1 hq => hq F1 H1 σ J1⟩
theorem r_doc {x : Str} {j : Nat} {p1 p2 : Pos} : PS X (.Expr (.Constant (.str x) j p1) p2) (TSof X dA W fun s => .ok .nx s) :=
  ps_doc.mono fun D σ H ⟨F0, H0, F, s, J, hp⟩ => hp F H σ J
theorem r_ret (he : PE X e (TEof X dA W f)) : PS X (.Return (some e) pos) (TSof X dA W fun s => (f s).bind fun r s1 => .ok (.ret r) s1) :=
  (ps_ret he).mono fun D σ H ⟨F0, H0, F, s, J, hp⟩ => ⟨F, s, J.rel, PostE.bindS J hp fun rv s1 v F1 H1 _ J1 x1 r1 hq => hq v F1 H1 σ J1 (r1.weak J.l0)⟩
theorem r_retV {i : Nat} {r : Sto → Out RV} (hd : PE X e (tVar i)) : PS X (.Return (some e) pos) (TSof X dA W fun s => (retV (.v i) (r s) s).bind fun r s1 => .ok (.ret r) s1) :=
  (ps_ret hd).mono fun D σ H ⟨F0, H0, F, s, J, hp⟩ => by
    show ∃ v, σ[i]? = some (some v) ∧ D.rt v H
    have hp' : PostS X dA W F0 H0 D ((match s.env[i]? with
      | some (some (.ow d)) => Out.ok (RV.fr d) s
      | some (some (.sh d)) => .ok (.sh d) s
      | _ => .stuck).bind fun r s1 => .ok (.ret r) s1) := hp
    split at hp'
    · rename_i d q
      obtain ⟨a, e, h1, h2, h3, h4⟩ := J.rel.own q
      exact ⟨_, e, hp' _ F H σ J ⟨a, rfl, h1, J.o0 a h4, h3⟩⟩
    · rename_i d q
      obtain ⟨v, e, r⟩ := J.rel.at_ _ _ q
      exact ⟨v, e, hp' v F H σ J r⟩
    · exact hp'.elim
theorem r_retN : PS X (.Return none pos) (TSof X dA W fun s => .ok (.ret (.sh .none)) s) :=
  ps_retN.mono fun D σ H ⟨F0, H0, F, s, J, hp⟩ => hp .non F H σ J .non
theorem r_pass : PS X (.Pass pos) (TSof X dA W fun s => .ok .nx s) := ps_pass.mono fun D σ H ⟨F0, H0, F, s, J, hp⟩ => hp F H σ J
theorem r_brk : PS X (.Break pos) (TSof X dA W fun s => .ok .brk s) := ps_break.mono fun D σ H ⟨F0, H0, F, s, J, hp⟩ => hp F H σ J
theorem r_cnt : PS X (.Continue pos) (TSof X dA W fun s => .ok .cnt s) := ps_continue.mono fun D σ H ⟨F0, H0, F, s, J, hp⟩ => hp F H σ J
/-! ### if, for, while -/
theorem r_if {as bs : List Stmt} (hc : PT X c (TTof X dA W ft)) (ha : PSs X as (TSof X dA W fs)) (hb : PSs X bs (TSof X dA W gs)) : PS X (.If c as bs pos) (TSof X dA W fun s => (ft s).bind fun t s1 => if t then fs s1 else gs s1) :=
  (ps_if hc ha hb).mono fun D σ H ⟨F0, H0, F, s, J, hp⟩ => ⟨F, s, J.rel, PostG.bindS J hp fun t s1 c F1 H1 _ J1 x1 g1 hq => by
    subst g1
    cases c with
    | true => rw [if_pos rfl] at hq ⊢; exact ⟨F0, H0, F1, s1, J1, hq⟩
    | false => rw [if_neg Bool.false_ne_true] at hq ⊢; exact ⟨F0, H0, F1, s1, J1, hq⟩⟩
theorem r_whl {bs : List Stmt} (hp : PassesOwn (model X.prog X.w) X.A X.env X.xe) (hc : PT X c (TTof X dA W ft)) (hb : PSs X bs (TSof X dA W fs)) (n : Nat) : PS X (.While c bs [] pos) (TSof X dA W fun s => whlLoop ft fs n s) :=
  (ps_while hp hc hb).mono fun D σ H ⟨F0, H0, F, s, J, hq⟩ => by
    refine ⟨fun m σ H => ∃ F s, JJ X.KW dA F0 H0 F H σ s ∧ PostS X dA W F0 H0 D (whlLoop ft fs m s), ⟨n, F, s, J, hq⟩, fun m σ H ⟨F, s, J, hq⟩ => ?_⟩
    cases m with
    | zero => exact hq.elim
    | succ m =>
      refine ⟨F, s, J.rel, PostG.bindS J hq fun t s1 c F1 H1 _ J1 x1 g1 hq => ?_⟩
      subst g1
      cases c with
      | false => rw [if_neg Bool.false_ne_true] at hq ⊢; exact hq F1 H1 σ J1
      | true =>
        rw [if_pos rfl] at hq ⊢
        refine ⟨fun σ' H' => ∃ F s, JJ X.KW dA F0 H0 F H' σ' s ∧ PostS X dA W F0 H0 D (whlLoop ft fs m s), fun σ' H' h => ⟨m, Nat.lt_succ_self m, h⟩, F0, H0, F1, s1, J1, ?_⟩
        revert hq
        cases fs s1 with
        | stuck => exact fun h => h
        | exc c s' => exact fun h => h
        | ok fl s2 =>
          cases fl with
          | nx => exact fun h F' H' σ' J' => ⟨F', s2, J', h⟩
          | cnt => exact fun h F' H' σ' J' => ⟨F', s2, J', h⟩
          | brk => exact fun h => h
          | ret rv => exact fun h => h
theorem PostS.unbase {F0 H0 F H : Hp} {σ : SS} {s : Sto} {D : Ends} {o : Out Fl} {N : SS → Hp → Prop} {k : Sto → Out Fl} (J : JJ X.KW dA F0 H0 F H σ s)
    (hN : ∀ s2 F' H' σ', JJ X.KW dA F0 H0 F' H' σ' s2 → Same F F' → PostS X dA W F0 H0 D (k s2) → N σ' H')
    (h : PostS X dA W F0 H0 D (o.bind fun fl s' => match fl with
      | .nx => k s'
      | .cnt => k s'
      | .brk => .ok .nx s'
      | .ret rv => .ok (.ret rv) s')) : PostS X dA W F H0 { D with nx := N, ct := N, bk := D.nx } o := by
  cases o with
  | stuck => exact h
  | exc c s' => exact fun C F' H' σ' e J' => h C F' H' σ' e (J.unbase J')
  | ok fl s2 =>
    cases fl with
    | nx => exact fun F' H' σ' J' => hN s2 F' H' σ' (J.unbase J') J'.f0 h
    | cnt => exact fun F' H' σ' J' => hN s2 F' H' σ' (J.unbase J') J'.f0 h
    | brk => exact fun F' H' σ' J' => h F' H' σ' (J.unbase J')
    | ret rv => exact fun v F' H' σ' J' r => h v F' H' σ' (J.unbase J') r
def forBody (t : Tg) (fs : Sto → Out Fl) (d : D) (s' : Sto) : Out Fl := match bindT t d s' with
    | some s2 => fs s2
    | none => .stuck
theorem r_for {t : Tg} {tg iter : Expr} {bs : List Stmt} (hp : PassesOwn (model X.prog X.w) X.A X.env X.xe) (hc : X.calm = true) (hi : PI X tg iter (TIof X dA W fi)) (hg : PG X tg (TGof X dA t)) (hb : PSs X bs (TSof X dA W fs)) (hs : ∀ x, foldedSetIterable iter X.env x = pure x) :
    PS X (.For tg iter bs [] pos) (TSof X dA W fun s => (fi s).bind fun items s1 => forLoop (forBody t fs) items s1) :=
  (ps_for hp hc hi hg hb hs).mono fun D σ H ⟨F0, H0, F, s, J, hq⟩ => ⟨F, s, J.rel, PostG.bindS J hq fun items s1 It F1 H1 _ J1 x1 itok hq => by
    refine ⟨fun i m σ H => m = items.length - i ∧ i ≤ items.length ∧ ∃ F s, JJ X.KW dA F0 H0 F H σ s ∧ Same F1 F ∧ PostS X dA W F0 H0 D (forLoop (forBody t fs) (items.drop i) s), ⟨items.length, by simp, Nat.zero_le _, F1, s1, J1, same_refl, hq⟩, ?_⟩
    rintro i m σ H ⟨rfl, hle, F, s, J, sf, hq⟩
    have ok := itok i F H sf J.rel.sub
    by_cases hi : i < items.length
    · obtain ⟨hgo, hyld⟩ := ok.1 hi
      refine .inr ⟨hgo, fun σ' H' => ∃ m', m' < items.length - i ∧ (m' = items.length - (i + 1) ∧ i + 1 ≤ items.length ∧ ∃ F s, JJ X.KW dA F0 H0 F H' σ' s ∧ Same F1 F ∧ PostS X dA W F0 H0 D (forLoop (forBody t fs) (items.drop (i + 1)) s)), fun σ' H' h => h, fun x H' hy => ?_⟩
      obtain ⟨F2, d, n, ed, rd⟩ := hyld x H' hy
      have edr : items.drop i = d :: items.drop (i + 1) := by
        obtain ⟨hlt, e⟩ := List.getElem?_eq_some_iff.mp ed
        rw [List.drop_eq_getElem_cons hlt, e]
      rw [edr] at hq
      have hq' : PostS X dA W F0 H0 D ((forBody t fs d s).bind fun fl s' => match fl with
        | .nx => forLoop (forBody t fs) (items.drop (i + 1)) s'
        | .cnt => forLoop (forBody t fs) (items.drop (i + 1)) s'
        | .brk => .ok .nx s'
        | .ret rv => .ok (.ret rv) s') := hq
      have J2 := J.newF n
      unfold forBody at hq'
      cases eb : bindT t d s with
      | none => rw [eb] at hq'; exact hq'.elim
      | some s2 =>
        rw [eb] at hq'
        refine ⟨F2, s, d, s2, J2.rel, rd, eb, fun σ2 R2 _ o2 => ?_⟩
        have J3 : JJ X.KW dA F0 H0 F2 H' σ2 s2 := ⟨R2, J2.k0, J2.l0, J2.f0, J2.n0, fun a h => J2.o0 a (o2 a h)⟩
        exact ⟨F2, H0, F2, s2, J3.rebase, PostS.unbase J3 (fun s3 F' H3 σ' J' sf' h => ⟨items.length - (i + 1), by omega, rfl, by omega, F', s3, J', Same.trans' (Same.trans' sf n.fs) sf', h⟩) hq'⟩
    · have ei : i = items.length := by omega
      subst ei
      rw [List.drop_length] at hq
      exact .inl ⟨ok.2 (Nat.le_refl _), hq F H σ J⟩⟩
/-! ### raise, try -/
theorem r_raise {x m : Str} {j : Nat} {p p2 p3 : Pos} {C : Addr} {bmB : List Value} {B newId initId : String} (hc : X.calm = true) (tk : Takes X W) (Fx : ExcBaseFacts B newId initId bmB) (q : PySem.W.excIn X.KW C bmB newId = true) (gC : X.mg x = some (.ref C)) (kC : PySem.W.keepIn X.KW (.ref C) = true) (r : Raises X (.ref C)) (hg : Gl X x) (hdb : (x == ("__debug__" : Str)) = false) :
    PS X (.Raise (some (.Call (.Name x p) [.Constant (.str m) j p2] [] p3)) none pos) (TSof X dA W fun s => .exc x s) :=
  (ps_raise hc tk (pmk_own Fx q gC kC r hg hdb)).mono fun D σ H ⟨F0, H0, F, s, J, h⟩ => h C F H σ gC J
/-- except suites -/
structure Hd where
  c : Str
  C : Addr
  f : Sto → Out Fl
def hdl (l : List Hd) (c : Str) (s : Sto) : Out Fl := match l with
  | [] => .exc c s
  | h :: r => if excHd c h.c then noExc (h.f s) else hdl r c s
theorem hds_read {W : WX} {D : Ends} {F0 H0 : Hp} : ∀ (l : List Hd) (c : Str) (C : Addr) (s1 : Sto), (∀ h ∈ l, PySem.W.exmOne X.KW (.ref C) (.ref h.C) = some (excHd c h.c)) → X.mg c = some (.ref C) → PostS X dA W F0 H0 D (hdl l c s1) →
    ∀ (F' H' : Hp) (σ' : SS), JJ X.KW dA F0 H0 F' H' σ' s1 → wMany X.KW W D (l.map fun h => (Value.ref h.C, fun _ _ _ => TSof X dA WF h.f)) (.ref C) none σ' H'
  | [], c, C, s1, _, hm, h, F', H', σ', J => h C F' H' σ' hm J
  | hd :: l, c, C, s1, hx, hm, h, F', H', σ', J => by
    refine ⟨excHd c hd.c, hx hd (List.mem_cons_self ..), fun e a _ => ?_, fun e => ?_⟩
    · have h' : PostS X dA W F0 H0 D (if excHd c hd.c then noExc (hd.f s1) else hdl l c s1) := h
      rw [e, if_pos rfl] at h'
      refine ⟨F0, H0, F', s1, J, ?_⟩
      revert h'
      cases hd.f s1 with
      | stuck => exact fun h => h
      | ok fl s2 => cases fl <;> exact fun h => h
      | exc c' s2 => exact fun h => h.elim
    · have h' : PostS X dA W F0 H0 D (if excHd c hd.c then noExc (hd.f s1) else hdl l c s1) := h
      rw [e, if_neg Bool.false_ne_true] at h'
      exact hds_read l c C s1 (fun h hm => hx h (List.mem_cons_of_mem _ hm)) hm h' F' H' σ' J
theorem r_try {body : List Stmt} {h₀ : ExceptHandler} {hs : List ExceptHandler} {l : List Hd} {ex : List Str} (hst : X.stack = X.env :: X.outer) (hf : X.env.frame = some X.env.locals) (tk : Takes X W)
    (hb : ∀ (W : WX) (pn : List (Addr × Obj)) (xe : Value → Shared → Prop), Takes (X.tr pn xe) W → PassesOwn (model X.prog X.w) X.A X.env xe → PSs (X.tr pn xe) body (TSof X dA W fs))
    (hh : HdsOk X (h₀ :: hs) (l.map fun h => (Value.ref h.C, fun _ _ _ => TSof X dA WF h.f))) (hx : ∀ c ∈ ex, ∀ C, X.mg c = some (.ref C) → ∀ h ∈ l, PySem.W.exmOne X.KW (.ref C) (.ref h.C) = some (excHd c h.c)) :
    PS X (.Try body (h₀ :: hs) [] [] pos) (TSof X dA W fun s => match fs s with
    | .exc c s1 => if c ∈ ex then hdl l c s1 else .stuck
    | r => r) :=
  (ps_try_many (tb := fun W => TSof X dA W fs) hst hf tk hb hh).mono fun D σ H ⟨F0, H0, F, s, J, h⟩ => ⟨F0, H0, F, s, J, by
    revert h
    dsimp only
    cases fs s with
    | stuck => exact fun h => h
    | ok fl s2 => cases fl <;> exact fun h => h
    | exc c s1 =>
      intro h C F' H' σ' hm J'
      dsimp only at h
      split at h
      · rename_i hc
        exact hds_read l c C s1 (hx c hc C hm) hm h F' H' σ' J'
      · exact h.elim⟩
end
end WV
namespace WV
open PySem PySem.Spec PyProof.Rows L2
/-! ## the drawing def's own steps: cells and numbers of the deal -/
section
variable {X : Cx} {dA : DA} {W : WX} {fa : Sto → Out Opd} {f g : Sto → Out RV} {a b c e : Expr} {es : List Expr} {pos : Pos}
theorem int_ok {X : Cx} : B1Ok X (.type "int") (biG .int) := by
  refine ⟨_, call_int1, fun F H x d rv Q s bx hg q => ?_⟩
  cases d <;> simp only [biG] at hg <;> try (cases hg; done)
  rename_i i
  cases hg
  exact .inl ⟨i, by rw [bx.int], newSh s (.int _) q⟩
theorem Rel.dealAt {K : KW} {F H : Hp} {σ : SS} {s : Sto} {i : Nat} {dl : Dl} (R : Rel K dA F H σ s) (h : isDeal s i = true) (hd : s.dl = some dl) :
    ∃ x y, dA = some (x, y) ∧ σ[i]? = some (some (.ref x)) ∧ x ≠ y ∧ H x = some (.lst (.ref y :: dl.rest.map V.int)) ∧ H y = some (.lst (dl.cells.map V.int)) ∧ F x = none ∧ F y = none := by
  obtain ⟨v, ev, ax, cx, ed, rfl⟩ := R.at_ _ _ (isDeal_eq h)
  have hdo := R.deal
  rw [hd] at hdo
  obtain ⟨a', c', e', ne, h1, h2, h3, h4⟩ := hdo
  rw [ed] at e'
  cases e'
  exact ⟨ax, cx, ed, ev, ne, h1, h2, h3, h4⟩
theorem Rel.dclAt {K : KW} {F H : Hp} {σ : SS} {s : Sto} {i : Nat} {dl : Dl} (R : Rel K dA F H σ s) (h : s.env[i]? = some (some .dcl)) (hd : s.dl = some dl) :
    ∃ x y, dA = some (x, y) ∧ σ[i]? = some (some (.ref y)) ∧ x ≠ y ∧ H x = some (.lst (.ref y :: dl.rest.map V.int)) ∧ H y = some (.lst (dl.cells.map V.int)) ∧ F x = none ∧ F y = none := by
  obtain ⟨v, ev, ax, cx, ed, rfl⟩ := R.at_ _ _ h
  have hdo := R.deal
  rw [hd] at hdo
  obtain ⟨a', c', e', ne, h1, h2, h3, h4⟩ := hdo
  rw [ed] at e'
  cases e'
  exact ⟨ax, cx, ed, ev, ne, h1, h2, h3, h4⟩
theorem ixN_pos {n k : Nat} (h : k < n) : ixN n (k : Int) = some k := by
  unfold ixN
  rw [if_pos (by omega)]
  simp [h]
theorem atI_pos {α : Type} {l : List α} {k : Nat} {x : α} (h : l[k]? = some x) : L2.atI l (k : Int) = some x := by
  have hk : k < l.length := (List.getElem?_eq_some_iff.mp h).1
  have e : ixN l.length (k : Int) = some k := ixN_pos hk
  unfold L2.atI
  rw [e]
  exact h
theorem r_dget {i k : Nat} {y : Str} {p p2 : Pos} {j : Nat} {C : Cal} (hd : PE X (.Name y p) (tVar i)) :
    PE X (.Subscript (.Name y p) (.Constant (.int ((k + 1 : Nat) : Int)) j p2) pos) (TEof X dA W (evE C (.dget i k))) := by
  refine (pe_ix ix_seq hd pe_int (fun _ _ => rfl)).mono fun σ H Q ⟨F, s, R, h⟩ => ?_
  have h' : PostE X dA W σ s F H (fun _ => Q) (match isDeal s i, s.dl with
    | true, some dl => match dl.rest[k]? with
      | some n => .ok (.sh (.int n)) s
      | none => .stuck
    | _, _ => .stuck) := h
  split at h'
  · rename_i dl q1 q2
    obtain ⟨x, y', ed, ev, ne, h1, h2, h3, h4⟩ := R.dealAt q1 q2
    cases er : dl.rest[k]? with
    | none => rw [er] at h'; exact h'.elim
    | some n =>
      rw [er] at h'
      refine ⟨_, ev, .inl ⟨x, _, _, .int n, rfl, rfl, SqL.of h1, atI_pos (by rw [List.getElem?_cons_succ, List.getElem?_map, er]; rfl), ?_⟩⟩
      exact h' (.int n) F H R Ext.refl (.int n)
  · exact h'.elim
/-- the deal changes -/
theorem Rel.dealTo {K : KW} {F H H' : Hp} {σ : SS} {s : Sto} {ax cx : Addr} {dl' : Dl} (R : Rel K dA F H σ s) (ed : dA = some (ax, cx)) (ne : ax ≠ cx) (h3 : F ax = none) (h4 : F cx = none)
    (k1 : ∀ b o, H b = some o → b ≠ ax → b ≠ cx → H' b = some o) (k2 : H' ax = some (.lst (.ref cx :: dl'.rest.map V.int))) (k3 : H' cx = some (.lst (dl'.cells.map V.int))) :
    Rel K dA F H' σ { s with dl := some dl' } ∧ Ext dA σ s F H { s with dl := some dl' } F H' := by
  have nF : ∀ b o, F b = some o → b ≠ ax ∧ b ≠ cx := fun b o e => ⟨fun z => (by subst z; rw [h3] at e; cases e), fun z => (by subst z; rw [h4] at e; cases e)⟩
  have fz : Same F H' := fun b o e => k1 b o (R.sub b o e) (nF b o e).1 (nF b o e).2
  have da : ∀ b, ¬ isDA dA b → b ≠ ax ∧ b ≠ cx := fun b nb => ⟨fun z => nb ⟨_, _, ed, .inl z⟩, fun z => nb ⟨_, _, ed, .inr z⟩⟩
  refine ⟨⟨fz, R.len, fun j c q => ?_, R.apart, ⟨ax, cx, ed, ne, k2, k3, h3, h4⟩⟩, ⟨fun b o q _ nb => k1 b o q (da b nb).1 (da b nb).2, fun b q z => ?_, same_refl, fun b q => .inl q, fun b q => q⟩⟩
  · obtain ⟨w, ew, q'⟩ := R.at_ j c q
    refine ⟨w, ew, ?_⟩
    cases c with
    | sh d => exact q'
    | ow d =>
      obtain ⟨b, rfl, z1, z2, z3⟩ := q'
      exact ⟨b, rfl, z1, z2, z3.keep same_refl fun o e => k1 b o e (da b z2).1 (da b z2).2⟩
    | deal => exact q'
    | dcl => exact q'
    | scr ns => exact q'
  · by_cases za : b = ax
    · subst za; rw [k2] at z; cases z
    · by_cases zc : b = cx
      · subst zc; rw [k3] at z; cases z
      · cases e : H b with
        | none => exact q e
        | some o => rw [k1 b o e za zc] at z; cases z
theorem cutV_take {α : Type} (l : List α) (k : Nat) : (l.drop (HT.sIx l.length 0 none)).take (HT.sIx l.length l.length (some (k : Int)) - HT.sIx l.length 0 none) = l.take k := by
  have e0 : HT.sIx l.length 0 none = 0 := rfl
  have e1 : HT.sIx l.length l.length (some (k : Int)) = min k l.length := by
    simp only [HT.sIx]
    split <;> omega
  rw [e0, e1, List.drop_zero, Nat.sub_zero]
  by_cases h : k ≤ l.length
  · rw [Nat.min_eq_left h]
  · rw [Nat.min_eq_right (by omega), List.take_of_length_le (Nat.le_refl _), List.take_of_length_le (by omega)]
theorem r_cuts {i k : Nat} {y : Str} {p p2 p3 : Pos} {j : Nat} {C : Cal} (hd : PE X (.Name y p) (tVar i)) :
    PE X (.Subscript (.Name y p) (.Slice none (some (.Constant (.int (k : Int)) j p2)) none p3) pos) (TEof X dA W (evE C (.cuts i k))) := by
  refine (pe_slice sl_list hd po_none (po_some pe_int)).mono fun σ H Q ⟨F, s, R, h⟩ => ?_
  have h' : PostE X dA W σ s F H (fun _ => Q) (match s.env[i]? with
    | some (some (.scr ns)) => .ok (.fr (.list ((ns.take k).map PyData.int))) s
    | _ => .stuck) := h
  split at h'
  · rename_i ns q
    obtain ⟨v, e, a, rfl, hq⟩ := R.at_ _ _ q
    refine ⟨_, e, _, rfl, a, _, rfl, seqL_mono R.sub hq, fun p hp => ?_⟩
    have e2 : cutV (ns.map V.int) none (some (k : Int)) = (ns.take k).map V.int := by
      rw [List.map_take]
      exact cutV_take (ns.map V.int) k
    rw [e2]
    have n : NewF F H F (upd H p (.lst ((ns.take k).map V.int))) := NewF.own R.sub hp
    exact h' (.ref p) F _ (R.newF n) (Ext.ofNew n) ⟨p, rfl, none_of_same R.sub hp, hp, _, upd_same, RepA.of_ints⟩
  · exact h'.elim
theorem r_dpop {i : Nat} {y : Str} {p p2 apos : Pos} {j : Nat} {C : Cal} (hd : PE X (.Name y p) (tVar i)) (hl : (apos.endLine == pos.line) = true) :
    PE X (.Call (.Attribute (.Name y p) "pop" apos) [.Constant (.int 0) j p2] [] pos) (TEof X dA W (evE C (.dpop i))) := by
  refine (pe_bm PySem.F.plainAttrs_list PySem.F.slot_list_pop PySem.F.type_list_pop mt_popAt hd (pa_cons pe_int pa_nil rfl) rfl rfl hl rfl).mono fun σ H Q ⟨F, s, R, h⟩ => ?_
  have h' : PostE X dA W σ s F H (fun _ => Q) (match s.env[i]?, s.dl with
    | some (some .dcl), some dl => match dl.cells with
      | n :: r => .ok (.sh (.int n)) { s with dl := some { dl with cells := r } }
      | [] => .stuck
    | _, _ => .stuck) := h
  split at h'
  · rename_i dl q1 q2
    obtain ⟨x, y', ed, ev, ne, h1, h2, h3, h4⟩ := R.dclAt q1 q2
    cases er : dl.cells with
    | nil => rw [er] at h'; exact h'.elim
    | cons n r =>
      rw [er] at h' h2
      obtain ⟨R', x'⟩ := R.dealTo (dl' := { dl with cells := r }) (H' := upd H y' (.lst (r.map V.int))) ed ne h3 h4 (fun b o e _ nc => by rw [upd_ne nc]; exact e) (by rw [upd_ne ne]; exact h1) upd_same
      refine ⟨_, ev, tyL (K := X.KW) h2, y', _, 0, 0, .int n, rfl, rfl, h2, by omega, by omega, ?_, rfl, ?_⟩
      · simp [seqIndex?]
      · exact h' (.int n) F _ R' x' (.int n)
  · exact h'.elim
theorem Rel.setDcl {K : KW} {F H : Hp} {σ : SS} {s : Sto} {x y : Addr} (R : Rel K dA F H σ s) (ed : dA = some (x, y)) (i : Nat) : Rel K dA F H (σ.set i (some (.ref y))) (s.set i .dcl) ∧ ∀ a, OA (σ.set i (some (.ref y))) (s.set i .dcl) a → OA σ s a := by
  have back : ∀ (j : Nat) (c : Cell), (s.set i .dcl).env[j]? = some (some c) → (j = i ∧ c = .dcl ∧ i < s.env.length) ∨ (j ≠ i ∧ s.env[j]? = some (some c)) := fun j c h => by
    have h' : (s.env.set i (some .dcl))[j]? = some (some c) := h
    by_cases z : i = j
    · subst z
      by_cases hi : i < s.env.length
      · rw [List.getElem?_set_self hi] at h'
        cases h'
        exact .inl ⟨rfl, rfl, hi⟩
      · rw [List.getElem?_eq_none (by rw [List.length_set]; omega)] at h'
        cases h'
    · rw [List.getElem?_set_ne z] at h'
      exact .inr ⟨Ne.symm z, h'⟩
  refine ⟨⟨R.sub, ?_, fun j c h => ?_, fun j k d1 e a h1 h2 h3 h4 => ?_, R.deal⟩, fun a ⟨j, d, h1, h2⟩ => ?_⟩
  · show (s.env.set i _).length = _
    rw [List.length_set, List.length_set]
    exact R.len
  · rcases back j c h with ⟨rfl, rfl, hi⟩ | ⟨q1, q2⟩
    · exact ⟨_, List.getElem?_set_self (by rw [← R.len]; exact hi), x, y, ed, rfl⟩
    · obtain ⟨w, e, q⟩ := R.at_ j c q2
      exact ⟨w, by rw [List.getElem?_set_ne (Ne.symm q1)]; exact e, q⟩
  · rcases back j _ h1 with ⟨_, z, _⟩ | ⟨q1, q2⟩
    · cases z
    · rcases back k _ h2 with ⟨_, z, _⟩ | ⟨q3, q4⟩
      · cases z
      · rw [List.getElem?_set_ne (Ne.symm q1)] at h3
        rw [List.getElem?_set_ne (Ne.symm q3)] at h4
        exact R.apart j k d1 e a q2 q4 h3 h4
  · rcases back j _ h1 with ⟨_, z, _⟩ | ⟨q1, q2⟩
    · cases z
    · rw [List.getElem?_set_ne (Ne.symm q1)] at h2
      exact ⟨j, d, q2, h2⟩
theorem r_dcel {i j : Nat} {x y : Str} {px p p2 p3 : Pos} {l : Nat} {C : Cal} (hN : X.N.Nodup) (hi : X.N[j]? = some x) (hx : L2.Loc X.env.scope x) (hf : X.fn x = true ∨ X.env.scope.names.lookup x = some .local) (hd : PE X (.Name y p) (tVar i)) :
    PS X (.Assign [.Name x px] (.Subscript (.Name y p) (.Constant (.int 0) l p2) p3) pos) (TSof X dA W (evS C (.dcel j i))) := by
  refine (ps_set hN hi hx (pe_ix ix_seq hd pe_int (fun _ _ => rfl)) rfl hf).mono fun D σ H ⟨F0, H0, F, s, J, hp⟩ => ?_
  have hp' : PostS X dA W F0 H0 D (if isDeal s i then .ok .nx (s.set j .dcl) else .stuck) := hp
  split at hp'
  · rename_i q1
    cases hdl : s.dl with
    | none =>
      obtain ⟨v, ev, ax, cx, ed, rfl⟩ := J.rel.at_ _ _ (isDeal_eq q1)
      have hdo := J.rel.deal
      rw [hdl] at hdo
      rw [show dA = none from hdo] at ed
      cases ed
    | some dl =>
      obtain ⟨x', y', ed, ev, ne, h1, h2, h3, h4⟩ := J.rel.dealAt q1 hdl
      obtain ⟨R', o'⟩ := J.rel.setDcl ed j
      exact ⟨_, ev, .inl ⟨x', _, _, .ref y', rfl, rfl, SqL.of h1, atI_pos (k := 0) rfl, hp' F H _ ⟨R', J.k0, J.l0, J.f0, J.n0, fun a h => J.o0 a (o' a h)⟩⟩⟩
  · exact hp'.elim
theorem r_dset {i k : Nat} {y : Str} {p p2 tp : Pos} {j : Nat} (hd : PE X (.Name y p) (tVar i)) (he : PE X e (TEof X dA W f)) (hs : swapsWithSole [.Subscript (.Name y p) (.Constant (.int ((k + 1 : Nat) : Int)) j p2) tp] e pos.line X.env = pure false) (hw : swappedStores [.Subscript (.Name y p) (.Constant (.int ((k + 1 : Nat) : Int)) j p2) tp] e X.env = pure none) :
    PS X (.Assign [.Subscript (.Name y p) (.Constant (.int ((k + 1 : Nat) : Int)) j p2) tp] e pos) (TSof X dA W fun s => (f s).bind fun r s1 => if !(isDeal s1 i) then .stuck else match r.dat, s1.dl with
    | .int n, some dl => if k < dl.rest.length then .ok .nx { s1 with dl := some { dl with rest := dl.rest.set k n } } else .stuck
    | _, _ => .stuck) :=
  (ps_asg he (pg_sub hd pe_int set_list (fun _ => rfl)) hs hw rfl).mono fun D σ H ⟨F0, H0, F, s, J, hp⟩ => ⟨F, s, J.rel, PostE.keep J.rel (PostG.bindS J hp fun r s1 v F1 H1 _ J1 x1 g1 hq => by
    split at hq
    · exact hq.elim
    · rename_i hn
      have hdl : isDeal s1 i = true := by simpa using hn
      split at hq
      · rename_i n dl e1 e2
        split at hq
        · rename_i hk
          obtain ⟨x, y', ed, ev, ne, h1, h2, h3, h4⟩ := J1.rel.dealAt hdl e2
          rw [e1] at g1
          cases g1
          obtain ⟨R', x'⟩ := J1.rel.dealTo (dl' := { dl with rest := dl.rest.set k n }) (H' := upd H1 x (.lst (.ref y' :: (dl.rest.set k n).map V.int))) ed ne h3 h4 (fun b o e nb _ => by rw [upd_ne nb]; exact e) upd_same (by rw [upd_ne (Ne.symm ne)]; exact h2)
          refine ⟨_, ev, x, _, _, k + 1, rfl, rfl, h1, ixN_pos (by simpa using hk), ?_⟩
          rw [List.set_cons_succ, ← List.map_set]
          exact hq F1 _ σ (J1.ext R' x')
        · exact hq.elim
      · exact hq.elim)⟩
end
end WV
namespace WV
open PySem PySem.Spec PyProof.Rows L2
/-! ## xs[::-1] of tuples too -/
section
variable {prog : Program} {w : World} {A : Around} {E : Value → Shared → Prop} {s : Shared}
theorem applied_rev {c : Addr} {u : Tok} {n : Nat} {Q : Int × Int × Nat → Shared → Prop} (k : s.heap.IsSliceOf c .none .none (.int (-1) u)) (h : Q ((n : Int) - 1, -1, n) s) : wpAny (model prog w) A (Builtin.Slice.sliceApplied (.ref c) (pure (n : Int))) Q E s := by
  obtain ⟨o, k1, _, k2⟩ := id k
  unfold Builtin.Slice.sliceApplied Builtin.Slice.sliceFields
  refine wpAny_bind (wpAny_bind (wpAny_field k1 k2 (x := .none) rfl (wpAny_bind (wpAny_field k1 k2 (x := .none) rfl (wpAny_bind (wpAny_field k1 k2 (x := .int (-1) u) rfl (wpAny_pure ?_)))))))
  refine wpAny_bind (slicePart_int ?_)
  show wpAny _ _ (if ((-1 : Int) == 0) = true then _ else _) _ _ s
  rw [if_neg (by decide)]
  refine wpAny_bind (slicePart_none (wpAny_bind (slicePart_none (wpAny_bind (wpAny_pure ?_)))))
  show wpAny _ _ (match Builtin.Slice.sliceAdjust none none (-1) (n : Int) with | (lo, hi) => pure (lo, (-1 : Int), Builtin.Slice.slicePlaces lo hi (-1))) _ _ s
  have e : Builtin.Slice.sliceAdjust none none (-1) (n : Int) = ((n : Int) - 1, -1) := by
    unfold Builtin.Slice.sliceAdjust
    simp
  rw [e]
  have e2 : Builtin.Slice.slicePlaces ((n : Int) - 1) (-1) (-1) = n := by
    unfold Builtin.Slice.slicePlaces
    have h1 : ¬ ((-1 : Int) > 0) := by omega
    simp only [h1, if_false]
    split <;> simp <;> omega
  show wpAny _ _ (pure ((n : Int) - 1, (-1 : Int), Builtin.Slice.slicePlaces ((n : Int) - 1) (-1) (-1))) _ _ s
  rw [e2]
  exact wpAny_pure h
theorem pick_rev (xs : Array Value) : ((List.range xs.size).filterMap fun (m : Nat) => xs[((xs.size : Int) - 1 + (m : Int) * -1).toNat]?).toArray = xs.toList.reverse.toArray := by
  congr 1
  have e : ∀ m ∈ List.range xs.size, xs[((xs.size : Int) - 1 + (m : Int) * -1).toNat]? = xs.toList.reverse[m]? := fun m hm => by
    have := List.mem_range.mp hm
    rw [List.getElem?_reverse (by simpa using this)]
    have e2 : ((xs.size : Int) - 1 + (m : Int) * -1).toNat = xs.toList.length - 1 - m := by
      simp only [Array.length_toList]
      omega
    rw [e2]
    simp
  have key : ∀ (l : List Nat) (f g : Nat → Option Value), (∀ m ∈ l, f m = g m) → l.filterMap f = l.filterMap g := fun l f g h => by
    induction l with
    | nil => rfl
    | cons x r ih =>
      rw [List.filterMap_cons, List.filterMap_cons, h x (List.mem_cons_self ..), ih fun m hm => h m (List.mem_cons_of_mem _ hm)]
  rw [key _ _ _ e]
  have := PySem.W.krv_all xs.toList.reverse.toArray
  simpa using this
theorem tuple_rev {a c : Addr} {xs : Array Value} {u : Tok} {Q : Value → Shared → Prop} (k0 : IsTup s.heap a xs) (k : s.heap.IsSliceOf c .none .none (.int (-1) u))
    (h : Q (.ref s.heap.objs.size) { s with heap := s.heap.push { cls := .type "tuple", data := .seq xs.toList.reverse.toArray } }) (hz : xs.size ≤ sizeLine) : wpAny (model prog w) A (getItem (.ref a) (.ref c)) Q E s := by
  have fits : sizeOk (.seq xs.toList.reverse.toArray) := by
    show xs.toList.reverse.toArray.size ≤ sizeLine
    simpa using hz
  obtain ⟨o, k1, k2, k3⟩ := id k
  have ty : s.TypeIs (.ref c) "slice" := ⟨o, k1, k2⟩
  unfold getItem
  try with_reducible refine wpAny_holding ?_
  first | refine wpAny_bind (wpAny_pure ?_) | skip
  refine wpAny_bind (wpAny_sequenceKey k0.typeIs (by decide) ?_)
  refine wpAny_bind (wpAny_callSpecial?_slot (name := Str.ofString "__getitem__") k0.typeIs PyProof.Rows.slot_tuple_getitem (wpAny_call_entry PyProof.Rows.slot_tuple_getitem k0.typeIs PyProof.Rows.entry_tuple_getitem ?_ (PyProof.Rows.args_tuple_getitem _ _)))
  show wpAny _ _ (Builtin.Tuple.tupleItemsOf (.ref a) >>= _) _ _ s
  refine wpAny_bind (PyProof.Rows.tupleItemsOf_ k0 ?_)
  refine wpAny_bind (wpAny_typeOf ty ?_)
  rw [if_pos (by decide)]
  refine wpAny_bind (applied_rev k ?_)
  have hno : ¬ ((((xs.size : Int) - 1) == 0 && (-1 : Int) == 1 && xs.size == xs.size) = true) := by simp
  show wpAny _ _ (if (((xs.size : Int) - 1) == 0 && (-1 : Int) == 1 && xs.size == xs.size) = true then _ else _) _ _ s
  rw [if_neg hno, pick_rev]
  first
    | exact wpAny_bind (m := Builtin.Tuple.tupleExact _) (wpAny_newObj_type (wpAny_pure ⟨_, rfl, wpAny_pure h⟩) fits)
    | exact wpAny_bind (m := Builtin.Tuple.tupleExact _) (wpAny_newObj_type (wpAny_bind (wpAny_pure (wpAny_pure ⟨_, rfl, wpAny_pure h⟩))) fits)
    | exact wpAny_bind (wpAny_bind (m := Builtin.Tuple.tupleExact _) (wpAny_newObj_type (wpAny_pure (wpAny_pure ⟨_, rfl, wpAny_pure h⟩)) fits))
    | exact wpAny_bind (wpAny_bind (m := Builtin.Tuple.tupleExact _) (wpAny_newObj_type (wpAny_pure ⟨_, rfl, wpAny_pure h⟩) fits))
end
section
variable {X : Cx} {dA : DA} {W : WX} {fa : Sto → Out Opd} {a : Expr}
def tRevA (K : KW) (te : TE) : TE := fun σ H Q => te σ H fun x H1 => ∃ b ys, x = .ref b ∧ ((SqL K H1 b ys ∧ ∀ p, H1 p = none → Q (.ref p) (upd H1 p (.lst ys.reverse))) ∨ (SqT K H1 b ys ∧ ∀ p, H1 p = none → Q (.ref p) (upd H1 p (.tup ys.reverse))))
theorem pe_revA {e : Expr} {te : TE} {k : Nat} {q1 q2 q3 q4 : Pos} (hv : PE X e te) : PE X (.Subscript e (.Slice none none (some (.UnaryOp .USub (.Constant (.int 1) k q1) q2)) q3) q4) (tRevA X.KW te) := by
  refine ⟨fun ps s0 ρ Hh Qq J hh => Subscript_ (thn (hv.run ps s0 ρ Hh _ J hh) fun v s1 ⟨x, H1, I1, r1, b, ys, ex, cs⟩ => ?_)⟩
  subst ex
  cases r1
  have neg1 : PO X (some (.UnaryOp .USub (.Constant (.int 1) k q1) q2)) (tPart (tUn (rU fun i => .int (-i)) (tC (.int 1)))) := po_some (pe_un un_neg pe_int)
  refine wpAny_Slice (thn (po_none.run ps s1 ρ H1 (fun o G => o = none ∧ G = H1) I1 ⟨rfl, rfl⟩) fun vl s2 ⟨l, H2, I2, pl, el, e2⟩ => ?_)
  subst el e2
  refine thn (po_none.run ps s2 ρ H2 (fun o G => o = none ∧ G = H2) I2 ⟨rfl, rfl⟩) fun vu s3 ⟨u, H3, I3, pu, eu, e3⟩ => ?_
  subst eu e3
  refine thn (neg1.run ps s3 ρ H3 (fun o G => o = some (-1) ∧ G = H3) I3 ⟨1, rfl, -1, rfl, rfl, rfl⟩) fun vs s4 ⟨o, H4, I4, pz, eo, e4⟩ => ?_
  subst eo e4
  have I5 : Inv X ps ρ H4 { s4 with heap := s4.heap.push { cls := .type "slice", data := .fields #[vl, vu, vs] } } := I4.kept (t' := s4.toks) fun z ob q => Heap.get?_push_of_some _ q
  show wpAny (model X.prog X.w) X.A (subscriptTail e (.Slice none none (some (.UnaryOp .USub (.Constant (.int 1) k q1) q2)) q3) (.ref b) (.ref s4.heap.objs.size)) (EP X ps ρ Qq) X.xe { s4 with heap := s4.heap.push { cls := .type "slice", data := .fields #[vl, vu, vs] } }
  rcases cs with ⟨hx, q⟩ | ⟨hx, q⟩
  · obtain ⟨its, r, ht, hz⟩ := I5.list hx
    have hl := r.length
    refine tail_any (ops := [.ref b, .ref s4.heap.objs.size]) ht.isList.typeIs PySem.slot_list_getitem.lookup ?_ (by with_unfolding_all rfl)
    refine wpAny_getItem_list_slice ht.isList (Heap.IsSliceOf.new _ vl vu vs) pl pu pz (by decide) ?_ (by rw [List.size_toArray]; omega)
    rw [PySem.W.krv_pick]
    exact ⟨.ref _, _, I5.laid (t' := s4.toks) (o := .lst ys.reverse) (fun z ob g => Heap.get?_push_of_some _ g) (Nat.le_refl _) ⟨by rw [List.length_reverse]; exact hz, _, 0, r.reverse, Heap.get?_push_size _ rfl⟩, rfl, q _ (I5.hok.fresh (Nat.le_refl _))⟩
  · obtain ⟨its, r, ht, hz⟩ := I5.tuple hx
    have hl := r.length
    have hsl := Heap.IsSliceOf.new s4.heap vl vu vs
    cases pl
    cases pu
    cases pz
    refine tail_any (ops := [.ref b, .ref s4.heap.objs.size]) ht.typeIs PyProof.Rows.slot_tuple_getitem.lookup ?_ (by with_unfolding_all rfl)
    refine tuple_rev ht hsl ?_ (by rw [List.size_toArray]; omega)
    exact ⟨.ref _, _, I5.laid (t' := s4.toks) (o := .tup ys.reverse) (fun z ob g => Heap.get?_push_of_some _ g) (Nat.le_refl _) ⟨by rw [List.length_reverse]; exact hz, _, r.reverse, IsTup.new _ _⟩, rfl, q _ (I5.hok.fresh (Nat.le_refl _))⟩
theorem r_rev {k : Nat} {q1 q2 q3 q4 : Pos} (ha : PE X a (TOof X dA W fa)) : PE X (.Subscript a (.Slice none none (some (.UnaryOp .USub (.Constant (.int 1) k q1) q2)) q3) q4) (TEof X dA W fun s => (fa s).bind fun x s1 => lift1 revG x s1) :=
  (pe_revA ha).mono fun σ H Q ⟨F, s, R, h⟩ => ⟨F, s, R, PostG.bind h fun x s1 v F1 H1 _ R1 x1 g1 h => by
    obtain ⟨d, rv, e1, e2, h⟩ := lift1_post h
    have b := g1.brep R1 same_refl e1
    cases d <;> simp only [revG] at e2 <;> try (cases e2; done)
    · cases e2
      obtain ⟨y, vs, rfl, h1, r1⟩ := b.lst R1.sub
      exact ⟨y, vs, rfl, .inl ⟨SqL.of h1, fun p hp => newLst R1.sub r1.reverse (PostE.fin R1 h) p hp⟩⟩
    · cases e2
      obtain ⟨y, vs, rfl, h1, r1⟩ := b.tup R1.sub
      exact ⟨y, vs, rfl, .inr ⟨h1, fun p hp => newTup R1.sub r1.reverse (PostE.fin R1 h) p hp⟩⟩⟩
theorem r_emp {pos : Pos} {C : Cal} : PE X (.Dict [] [] pos) (TEof X dA W (evE C .emp)) :=
  pe_dnewK.mono fun σ H Q ⟨F, s, R, h⟩ p hp => by
    have n : NewF F H F (upd H p (.dK [])) := NewF.own R.sub hp
    exact h (.ref p) _ _ (R.newF n) (Ext.ofNew n) ⟨p, rfl, none_of_same R.sub hp, hp, [], [], upd_same, rfl, .nil⟩
theorem PostE.imp {F H : Hp} {σ : SS} {s : Sto} {Q Q' : V → Hp → Prop} {o : Out RV} (h : PostE X dA W σ s F H (fun _ => Q) o) (i : ∀ v H, Q v H → Q' v H) : PostE X dA W σ s F H (fun _ => Q') o := by
  cases o with
  | stuck => exact h
  | exc c s' => exact h
  | ok rv s' => exact fun v F' H' R' x' r => i v H' (h v F' H' R' x' r)
theorem acons_split {F H : Hp} {σ : SS} {s : Sto} {g : Sto → Out (List D)} {Q : List V → Hp → Prop} {o : Out RV} (R : Rel X.KW dA F H σ s)
    (h : PostG X dA W σ s F H (fun ds vs F' => RepA X.KW F' vs ds) Q (o.bind fun r s1 => (g s1).bind fun ds s2 => .ok (r.dat :: ds) s2)) :
    PostE X dA W σ s F H (fun _ => fun v H1 => TAof X dA W g σ H1 fun vs H2 => Q (v :: vs) H2) o :=
  PostE.keep R (PostG.bindG' h fun r s1 v F1 H1 _ R1 x1 g1 h =>
    ⟨F1, s1, R1, PostG.bindG' h fun ds s2 vs F2 H2 _ R2 x2 g2 h => h (v :: vs) F2 H2 R2 Ext.refl (.cons (Rep.mono x2.fs g1) g2)⟩)
theorem dspK_of : ∀ (ks : List Key) (ds : List D) (acc kvs : List (D × D)), dspK (ks.map keyD) ds acc = some kvs → ks.length = ds.length ∧ kvs = (ks.zip ds).foldl (fun a p => dPut a p.1 p.2) acc
  | [], [], acc, kvs, h => by cases h; exact ⟨rfl, rfl⟩
  | [], _ :: _, _, _, h => by cases h
  | _ :: _, [], _, _, h => by cases h
  | k :: ks, d :: ds, acc, kvs, h => by
    have h' : (match keyV (keyD k) with
      | some q => dspK (ks.map keyD) ds (dPut acc q d)
      | none => none) = some kvs := h
    rw [keyV_D] at h'
    obtain ⟨h1, h2⟩ := dspK_of ks ds _ kvs h'
    exact ⟨by rw [List.length_cons, List.length_cons, h1], h2⟩
theorem merge_zip {K : KW} {F : Hp} : ∀ (ks : List Key) (ds : List D) (ws : List V) (acc : List (D × D)) (ak : List Key) (av : List V), RepA K F ws ds → acc.map (·.1) = ak.map keyD → RepA K F av (acc.map (·.2)) →
    ∃ (ks' : List Key) (vs' : List V), mergeK (ak.zip av) (ks.zip ws) = ks'.zip vs' ∧ ((ks.zip ds).foldl (fun a p => dPut a p.1 p.2) acc).map (·.1) = ks'.map keyD ∧ RepA K F vs' (((ks.zip ds).foldl (fun a p => dPut a p.1 p.2) acc).map (·.2))
  | [], ds, ws, acc, ak, av, r, e, ra => ⟨ak, av, rfl, e, ra⟩
  | k :: ks, [], _, acc, ak, av, .nil, e, ra => ⟨ak, av, rfl, e, ra⟩
  | k :: ks, d :: ds, _, acc, ak, av, .cons (v := w) (vs := ws) h r, e, ra => by
    obtain ⟨k1, v1, z1, z2, z3⟩ := put_zip e ra k h
    obtain ⟨k2, v2, y1, y2, y3⟩ := merge_zip ks ds ws (dPut acc k d) k1 v1 r z2 z3
    refine ⟨k2, v2, ?_, y2, y3⟩
    rw [← y1, ← z1]
    rfl
theorem _root_.WV.Rel.free {K : KW} {F H : Hp} {σ : SS} {s : Sto} {p : Addr} {o : HO} (R : Rel K dA F H σ s) (h1 : F p = none) (h2 : ¬ OA σ s p) (h3 : ¬ isDA dA p) : Rel K dA F (upd H p o) σ s := by
  refine ⟨fun b u q => ?_, R.len, fun j c q => ?_, R.apart, ?_⟩
  · rw [upd_ne fun z => by subst z; rw [h1] at q; cases q]; exact R.sub b u q
  · obtain ⟨v, e2, q2⟩ := R.at_ j c q
    refine ⟨v, e2, ?_⟩
    cases c with
    | sh d => exact q2
    | ow d =>
      obtain ⟨b, rfl, h5, h6, h7⟩ := q2
      refine ⟨b, rfl, h5, h6, h7.keep same_refl fun u q' => ?_⟩
      rw [upd_ne fun z => h2 (by subst z; exact ⟨j, d, q, e2⟩)]
      exact q'
    | deal => exact q2
    | dcl => exact q2
    | scr ns => exact q2
  · have hd : DealOk dA F H s.dl := R.deal
    cases hdl : s.dl with
    | none => rw [hdl] at hd; exact hd
    | some dl =>
      rw [hdl] at hd
      obtain ⟨a', c', e', ne, q1, q2, q3, q4⟩ := hd
      exact ⟨a', c', e', ne, by rw [upd_ne fun z => h3 ⟨_, _, e', .inl z.symm⟩]; exact q1, by rw [upd_ne fun z => h3 ⟨_, _, e', .inr z.symm⟩]; exact q2, q3, q4⟩
theorem zip_kV : ∀ (kl : List Key) (ws : List V), (kl.map kV).zip ws = (kl.zip ws).map fun kv => (kV kv.1, kv.2)
  | [], _ => rfl
  | _ :: _, [] => rfl
  | k :: kl, w :: ws => by
    rw [List.map_cons, List.zip_cons_cons, List.zip_cons_cons, List.map_cons, zip_kV kl ws]
theorem r_dsp {ks : List (Option Expr)} {vs : List Expr} {kl : List Key} {g : Sto → Out (List D)} {trs : List (TE × TE)} (hp : PPs X pos ks vs trs) (hall : ks.all (·.isSome) = true) (hl : ks.length = vs.length) (h0 : ks ≠ []) (h15 : ks.length ≤ 15) (hkl : kl.length = ks.length)
    (hq : ∀ σ H (Q : List (V × V) → Hp → Prop), TAof X dA W g σ H (fun ys H3 => Q ((kl.map kV).zip ys) H3) → tPairs trs σ H Q) :
    PE X (.Dict ks vs pos) (TEof X dA W fun s => (g s).bind fun ds s' => outO (dspG (kl.map keyD) ds) s') :=
  (pe_disp hp hall hl h0 h15).mono fun σ H Q ⟨F, s, R, h⟩ p hp => by
    have n : NewF F H F (upd H p (.dK [])) := NewF.own R.sub hp
    have R0 := R.newF n
    refine hq σ _ _ ⟨F, s, R0, ?_⟩
    have h : PostE X dA W σ s F H (fun _ => Q) ((g s).bind fun ds s' => outO (dspG (kl.map keyD) ds) s') := h
    have nOA : ¬ OA σ s p := fun z => (R.oa z).2.2 hp
    have nDA : ¬ isDA dA p := fun z => (R.da z).2 hp
    have nF : F p = none := none_of_same R.sub hp
    cases eg : g s with
    | stuck => rw [eg] at h; exact h.elim
    | exc c s' =>
      rw [eg] at h
      intro C F' H' hm R' x'
      exact h C F' H' hm R' ((Ext.ofNew n).trans x')
    | ok ds s' =>
      rw [eg] at h
      intro ws F' H' R' x' ra
      have hH : H' p = some (.dK []) := x'.keep p _ upd_same nOA nDA
      have hF : F' p = none := by
        cases e : F' p with
        | none => rfl
        | some o =>
          rcases x'.nw p (by rw [e]; exact fun z => nomatch z) with z | z | z
          · exact absurd nF z
          · exact absurd z nOA
          · rw [upd_same] at z; cases z
      have h' : PostE X dA W σ s F H (fun _ => Q) (outO (dspG (kl.map keyD) ds) s') := h
      unfold dspG at h'
      split at h'
      · cases ek : dspK (kl.map keyD) ds [] with
        | none => rw [ek] at h'; exact h'.elim
        | some kvs =>
          rw [ek] at h'
          obtain ⟨l1, l2⟩ := dspK_of kl ds [] kvs ek
          obtain ⟨ks', vs', z1, z2, z3⟩ := merge_zip kl ds ws [] [] [] ra rfl .nil
          rw [← l2] at z2 z3
          have lw : ws.length = ds.length := ra.length
          refine ⟨hH, kl.zip ws, ?_, by rw [List.length_zip]; omega, ?_⟩
          · exact zip_kV kl ws
          · have z1' : mergeK [] (kl.zip ws) = ks'.zip vs' := z1
            rw [z1']
            have nOA' : ¬ OA σ s' p := fun z => nOA (x'.ow p z)
            refine h' (.ref p) F' _ (R'.free hF nOA' nDA) ⟨fun a o q n1 n2 => ?_, fun a q => ?_, x'.fs, fun a q => ?_, x'.ow⟩ ⟨p, rfl, hF, hp, ks', vs', upd_same, z2, z3⟩
            · have : a ≠ p := fun z => by subst z; rw [hp] at q; cases q
              rw [upd_ne this]
              exact x'.keep a o (by rw [upd_ne this]; exact q) n1 n2
            · by_cases z : a = p
              · subst z; rw [upd_same]; exact fun z => nomatch z
              · rw [upd_ne z]; exact x'.live a (by rw [upd_ne z]; exact q)
            · rcases x'.nw a q with z | z | z
              · exact .inl z
              · exact .inr (.inl z)
              · refine .inr (.inr ?_)
                by_cases zz : a = p
                · subst zz; exact hp
                · rw [upd_ne zz] at z; exact z
      · exact h'.elim
end
end WV
namespace WV
open PySem PySem.Spec PyProof.Rows L2
/-! ## from the program's form to the small language -/
structure FI where
  np : Nat
structure TabC where
  fns : List (Str × FI)
  kws : List (Str × Nat × List Str × List Nat)
  cst : List (Str × D)
  exs : List Str
  blt : List Str
structure CE where
  T : TabC
  N : List Str
  rs : Scope
  sc : Scope
  calm : Bool
  dn : Str
  cn : Str
def CE.loc (c : CE) (x : Str) : Bool := c.sc.names.lookup x == some .local || c.sc.names.lookup x == some .cell
def CE.vis (c : CE) (x : Str) : Bool := c.sc.names.lookup x == some .local || c.sc.names.lookup x == some .cell || c.sc.names.lookup x == some .free
def CE.gl (c : CE) (x : Str) : Bool := c.sc.names.lookup x == some .globalImplicit && !(x == ("__debug__" : Str))
def CE.own (c : CE) (x : Str) : Bool := c.rs.names.lookup x == some .cell || c.sc.names.lookup x == some .local
def CE.bl (c : CE) (x : Str) : Bool := c.gl x && c.T.blt.contains x && !(x == ("__name__" : Str))
def ixOf (N : List Str) (x : Str) : Option Nat := match N with
  | [] => none
  | y :: r => if x == y then some 0 else (ixOf r x).map (· + 1)
/-- a name's slot, to be read -/
def CE.rd (c : CE) (x : Str) : Option Nat := if c.vis x && !(x == ("__debug__" : Str)) && !(x == ("__classdict__" : Str)) then ixOf c.N x else none
/-- .. to be set -/
def CE.wr (c : CE) (x : Str) : Option Nat := if c.loc x && c.own x then ixOf c.N x else none
def notStar : Expr → Bool
  | .Starred .. => false
  | _ => true
def notSet : Expr → Bool
  | .Set .. => false
  | _ => true
def notSlice : Expr → Bool
  | .Slice .. => false
  | _ => true
def isComp : Expr → Bool
  | .ListComp .. => true
  | .SetComp .. => true
  | .DictComp .. => true
  | _ => false
/-- .and, .or, .not, else mkP -/
def isTst : Ex → Bool
  | .and .. => false
  | .or .. => false
  | .not .. => false
  | _ => true
/-- isTrue looks at its value -/
def plainTest : Expr → Bool
  | .UnaryOp .Not _ _ => false
  | .BoolOp .. => false
  | .IfExp .. => false
  | .Compare .. => false
  | _ => true
def bOp : Operator → Option BOp
  | .Add => some .add
  | .Sub => some .sub
  | .Mult => some .mul
  | .FloorDiv => some .div
  | .Mod => some .mod
  | .Pow => some .pow
  | _ => none
def cOp : CmpOp → Option COp
  | .Eq => some .eq
  | .NotEq => some .ne
  | .Lt => some .lt
  | .LtE => some .le
  | .Gt => some .gt
  | .GtE => some .ge
  | .Is => some .is
  | .IsNot => some .isn
  | .In => some .inn
  | .NotIn => some .nin
def cConst : Const → Option D
  | .none => some .none
  | .bool b => some (.bool b)
  | .int i => some (.int i)
  | .str x => some (.str x)
  | _ => none
def tyOf (x : Str) : Option Ty :=
  if x == ("int" : Str) then some .int else if x == ("bool" : Str) then some .bool else if x == ("str" : Str) then some .str else if x == ("tuple" : Str) then some .tuple else if x == ("list" : Str) then some .list else none
def biOf (x : Str) : Option Bi :=
  if x == ("len" : Str) then some .len else if x == ("all" : Str) then some .all else if x == ("any" : Str) then some .any else if x == ("sum" : Str) then some .sum else if x == ("tuple" : Str) then some .tup else if x == ("list" : Str) then some .lst else if x == ("int" : Str) then some .int else none
def ownOf (N : List Str) (scope : Scope) : List (Str × Nat) := scope.names.filterMap fun y => if y.2 == .local || y.2 == .cell then (ixOf N y.1).map fun i => (y.1, i) else none
def blkB (N : List Str) (sc scope : Scope) : Bool :=
  scope.kind == .function && scope.names.all (fun y => scope.names.lookup y.1 == some y.2) &&
  scope.names.all (fun y => if y.2 == .free then sc.names.lookup y.1 == some .cell || sc.names.lookup y.1 == some .free else true)
def nodupB : List Str → Bool
  | [] => true
  | x :: r => !(r.contains x) && nodupB r
structure Cmp where
  e : CE → Expr → Option Ex
  t : CE → Expr → Option Ex
  es : CE → List Expr → Option Exs
  ks : CE → List Keyword → Option (Exs × List Str)
  x : CE → Option Expr → Option Exo
  c : CE → List Expr → Option Exo
  i : CE → Expr → Expr → Option Itr
def cNames (c : CE) : List Expr → Option (List Nat)
  | [] => some []
  | .Name x _ :: r => do
    let i ← c.wr x
    let is ← cNames c r
    some (i :: is)
  | _ => none
def cTg (c : CE) : Expr → Option Tg
  | .Name x _ => (c.wr x).map .nm
  | .Tuple es _ _ => if c.calm then (cNames c es).map .tp else none
  | _ => none
def gd {α : Type} (b : Bool) (o : Option α) : Option α := if b then o else none
/-- the context of a block -/
def CE.blk (c : CE) (scope : Scope) : CE := { c with rs := scope, sc := relS scope c.sc }
def stepComp (p : Cmp) (c : CE) (elt tg iter : Expr) (ifs : List Expr) (scope : Scope) : Option (List Nat × Tg × Itr × Exo × Ex) :=
  gd (c.calm && notSet iter && blkB c.N c.sc scope) do
    let it ← p.i c tg iter
    let t ← cTg (c.blk scope) tg
    let o ← p.c (c.blk scope) ifs
    let e ← p.e (c.blk scope) elt
    gd (t.ids.all fun i => ((ownOf c.N scope).map (·.2)).contains i) (some ((ownOf c.N scope).map (·.2), t, it, o, e))
def stepCall (p : Cmp) (c : CE) (f : Str) (args : List Expr) (kws : List Keyword) : Option Ex :=
  gd c.calm (match kws with
  | [] => (match args with
    | [] => none
    | [a] => (match biOf f with
      | some b => gd (c.bl f && notStar a) (match a with
        | .Name y _ => if y == ("script" : Str) && f == ("len" : Str) then (c.rd y).map .lens else (p.e c a).map (.bi b)
        | _ => (p.e c a).map (.bi b))
      | none => gd (c.gl f) do
        let i ← c.T.fns.lookup f
        let es ← p.es c args
        some (.call f es))
    | [a, b] =>
      if f == ("isinstance" : Str) then gd (c.bl f && notStar a) (match b with
        | .Name y _ => do
          let t ← tyOf y
          gd (c.bl y) ((p.e c a).map fun a' => .isi a' t)
        | _ => none)
      else if f == ("min" : Str) then gd (c.bl f && notStar a && notStar b) do
        let a' ← p.e c a
        let b' ← p.e c b
        some (.min2 a' b')
      else gd (c.gl f) do
        let i ← c.T.fns.lookup f
        let es ← p.es c args
        some (.call f es)
    | _ => gd (c.gl f) do
        let i ← c.T.fns.lookup f
        let es ← p.es c args
        some (.call f es))
  | _ => gd (c.gl f) do
    let es ← p.es c args
    let (ws, ks) ← p.ks c kws
    let q ← c.T.kws.find? fun q => q.1 == f && q.2.1 == args.length && q.2.2.1 == ks
    some (.callk f es ws ks q.2.2.2))
/-- deal[k + 1] -/
def dgOf (c : CE) : Expr → Expr → Option (Nat × Nat)
  | .Name y _, .Constant (.int k) _ _ => if y == c.dn && decide (1 ≤ k) then (c.rd y).map fun i => (i, k.toNat - 1) else none
  | _, _ => none
/-- deal[0] -/
def dcOf (c : CE) : Expr → Option Nat
  | .Subscript (.Name y _) (.Constant (.int k) _ _) _ => if y == c.dn && decide (k = 0) then c.rd y else none
  | _ => none
/-- script[:k] -/
def csOf (c : CE) : Expr → Option Expr → Option Expr → Option (Nat × Nat)
  | .Name y _, none, some (.Constant (.int k) _ _) => if y == ("script" : Str) && decide (0 ≤ k) then (c.rd y).map fun i => (i, k.toNat) else none
  | _, _, _ => none
def is0 : Expr → Bool
  | .Constant (.int k) _ _ => decide (k = 0)
  | _ => false
/-- a display's keys (numbers, texts as written) and values -/
def dspC (p : Cmp) (c : CE) : List (Option Expr) → List Expr → Option (List Key × Exs)
  | [], [] => some ([], .nil)
  | some (.Constant k _ _) :: ks, v :: vs => do
    let d ← cConst k
    let q ← keyV d
    let e ← p.e c v
    let r ← dspC p c ks vs
    some (q :: r.1, .cons e r.2)
  | _, _ => none
def stepE (p : Cmp) (c : CE) : Expr → Option Ex
  | .Constant k _ _ => (cConst k).map .lit
  | .Name x _ => match c.rd x with
    | some i => some (.v i)
    | none => gd (c.gl x) ((c.T.cst.lookup x).map (.gl x))
  | .Tuple es _ _ => (p.es c es).map .tup
  | .List es _ => (p.es c es).map .lst
  | .BinOp a o b _ => do
    let o' ← bOp o
    let a' ← p.e c a
    let b' ← p.e c b
    some (.bin o' a' b')
  | .UnaryOp .Not a _ => (p.e c a).map .not
  | .UnaryOp .USub a _ => (p.e c a).map .neg
  | .Compare a [o] [b] _ => gd (c.calm && !(behindInMarks o b)) do
    let o' ← cOp o
    let a' ← p.e c a
    let b' ← p.e c b
    some (.cmp o' a' b')
  | .Compare a [o, o2] [b, d] _ => gd (c.calm && !(lastMarks [o, o2] [b, d])) do
    let o' ← cOp o
    let o2' ← cOp o2
    let a' ← p.e c a
    let b' ← p.e c b
    let d' ← p.e c d
    some (.chn o' o2' a' b' d')
  | .BoolOp .And (a :: b :: r) pos => do
    let a' ← p.e c a
    let b' ← p.e c (.BoolOp .And (b :: r) pos)
    some (.and a' b')
  | .BoolOp .Or (a :: b :: r) pos => do
    let a' ← p.e c a
    let b' ← p.e c (.BoolOp .Or (b :: r) pos)
    some (.or a' b')
  | .BoolOp _ [a] _ => p.e c a
  | .IfExp t a b _ => do
    let t' ← p.t c t
    let a' ← p.e c a
    let b' ← p.e c b
    some (.ife t' a' b')
  | .Subscript a (.Slice lo hi none _) _ => match csOf c a lo hi with
    | some q => some (.cuts q.1 q.2)
    | none => do
      let a' ← p.e c a
      let lo' ← p.x c lo
      let hi' ← p.x c hi
      some (.slc a' lo' hi')
  | .Subscript a (.Slice none none (some (.UnaryOp .USub (.Constant (.int k) _ _) _)) _) _ => gd (decide (k = 1)) ((p.e c a).map .rev)
  | .Dict [] [] _ => some .emp
  | .Dict ks vs _ => gd (decide (ks.length ≤ 15) && !ks.isEmpty) ((dspC p c ks vs).map fun q => .dsp (q.1.map keyD) q.2)
  | .Subscript a b _ => match dgOf c a b with
    | some q => some (.dget q.1 q.2)
    | none => gd (c.calm && notSlice b) do
      let a' ← p.e c a
      let b' ← p.e c b
      some (.ix a' b')
  | .Call (.Name f _) args kws _ => stepCall p c f args kws
  | .Call (.Attribute (.Name y _) m ap) [] [] pos => gd (m == ("pop" : Str) && ap.endLine == pos.line) ((c.rd y).map .pop)
  | .Call (.Attribute (.Name y _) m ap) [a] [] pos => gd (ap.endLine == pos.line && notStar a) do
    let i ← c.rd y
    if m == ("pop" : Str) && y == c.cn && is0 a then some (.dpop i) else
    let a' ← p.e c a
    if m == ("append" : Str) then some (.app i a') else if m == ("extend" : Str) then some (.ext i a') else if m == ("pop" : Str) then some (.popAt i a') else none
  | .ListComp elt [⟨tg, iter, ifs, 0⟩] scope _ => (stepComp p c elt tg iter ifs scope).map fun q => .lc q.1 q.2.1 q.2.2.1 q.2.2.2.1 q.2.2.2.2
  | _ => none
def stepT (p : Cmp) (c : CE) (e : Expr) : Option Ex := match e with
  | .UnaryOp .Not a _ => (p.t c a).map .not
  | .BoolOp .And (a :: b :: r) pos => do
    let a' ← p.t c a
    let b' ← p.t c (.BoolOp .And (b :: r) pos)
    some (.and a' b')
  | .BoolOp .Or (a :: b :: r) pos => do
    let a' ← p.t c a
    let b' ← p.t c (.BoolOp .Or (b :: r) pos)
    some (.or a' b')
  | .BoolOp _ [a] _ => p.t c a
  | .Compare a [o] [b] _ => gd (c.calm && !(behindInMarks o b)) do
    let o' ← cOp o
    let a' ← p.e c a
    let b' ← p.e c b
    some (.cmp o' a' b')
  | .Compare a [o, o2] [b, d] _ => gd (c.calm && !(lastMarks [o, o2] [b, d])) do
    let o' ← cOp o
    let o2' ← cOp o2
    let a' ← p.e c a
    let b' ← p.e c b
    let d' ← p.e c d
    some (.chn o' o2' a' b' d')
  | _ => gd (plainTest e) ((p.e c e).bind fun x => gd (isTst x) (some x))
def stepEs (p : Cmp) (c : CE) : List Expr → Option Exs
  | [] => some .nil
  | e :: es => gd (notStar e) do
    let e' ← p.e c e
    let es' ← p.es c es
    some (.cons e' es')
def stepKs (p : Cmp) (c : CE) : List Keyword → Option (Exs × List Str)
  | [] => some (.nil, [])
  | ⟨some nm, e, _⟩ :: ks => do
    let e' ← p.e c e
    let (es', ns) ← p.ks c ks
    some (.cons e' es', nm :: ns)
  | _ => none
def stepX (p : Cmp) (c : CE) : Option Expr → Option Exo
  | none => some .no
  | some e => (p.e c e).map .so
def stepC (p : Cmp) (c : CE) : List Expr → Option Exo
  | [] => some .no
  | [e] => (p.t c e).map .so
  | _ => none
def isTupE : Expr → Bool
  | .Tuple .. => true
  | _ => false
def stepI (p : Cmp) (c : CE) (tg : Expr) : Expr → Option Itr
  | .Call (.Name f fp) [a] [] pos =>
    if f == ("range" : Str) then gd (c.bl f && notStar a) ((p.e c a).map .rg1)
    else if f == ("reversed" : Str) then gd (c.bl f && notStar a) ((p.e c a).map .rev)
    else if f == ("enumerate" : Str) then gd (c.bl f && notStar a && isTupE tg) ((p.e c a).map .enum)
    else (p.e c (.Call (.Name f fp) [a] [] pos)).map .seq
  | .Call (.Name f fp) [a, b] [] pos =>
    if f == ("range" : Str) then gd (c.bl f && notStar a && notStar b) do
      let a' ← p.e c a
      let b' ← p.e c b
      some (.rg2 a' b')
    else if f == ("zip" : Str) then gd (c.bl f && notStar a && notStar b && isTupE tg) do
      let a' ← p.e c a
      let b' ← p.e c b
      some (.zip a' b')
    else (p.e c (.Call (.Name f fp) [a, b] [] pos)).map .seq
  | e => (p.e c e).map .seq
def cmp : Nat → Cmp
  | 0 => ⟨fun _ _ => none, fun _ _ => none, fun _ _ => none, fun _ _ => none, fun _ _ => none, fun _ _ => none, fun _ _ _ => none⟩
  | n + 1 => ⟨stepE (cmp n), stepT (cmp n), stepEs (cmp n), stepKs (cmp n), stepX (cmp n), stepC (cmp n), stepI (cmp n)⟩
/-! ### statements -/
def swB (c : CE) (scope : Scope) (vpos : Pos) (y : Str) (py : Pos) : Bool := c.sc.names.lookup y == some .local && py.line == vpos.line && !(scope.names.any fun (n, k) => n == y && (k == .local || k == .cell))
/-- swappedStores' answer -/
def swS (c : CE) (ts vs : List Expr) : Option (Option (List Str)) :=
  if !(ts.length == 2 || ts.length == 3) || vs.length != ts.length then some none
  else if vs.any (fun | .Starred .. => true | _ => false) then some none
  else
    let line := (ts.head?.map (·.pos.line)).getD 0
    let names := ts.filterMap fun
      | .Name id pos => if c.sc.names.lookup id == some .local && pos.line == line then some id else none
      | _ => none
    if names.length != ts.length || names.eraseDups.length != names.length then some none
    else if vs.all (foldedForSure 8) then some none
    else if vs.all (constantsAlone 8) then none
    else some (some names)
structure CmpS where
  s : CE → Stmt → Option Sm
  ss : CE → List Stmt → Option Sms
  h : CE → List ExceptHandler → Option Hds
def stepS (E : Cmp) (p : CmpS) (c : CE) : Stmt → Option Sm
  | .Assign [.Name x px] v pos => do
    let i ← c.wr x
    (match dcOf c v with
    | some j => some (.dcel i j)
    | none => match v with
    | .ListComp elt [⟨tg, iter, ifs, 0⟩] scope vpos =>
      if swB c scope vpos x px then (stepComp E c elt tg iter ifs scope).map fun q => .asg i (.lc q.1 q.2.1 q.2.2.1 q.2.2.2.1 q.2.2.2.2)
      else (E.e c v).map (.asg i)
    | _ => gd (!(isComp v)) ((E.e c v).map (.asg i)))
  | .Assign [.Tuple ts _ _] (.Tuple vs _ _) _ => gd c.calm do
    let is ← cNames c ts
    let es ← E.es c vs
    let q ← swS c ts vs
    (match q with
    | none => gd (decide (is.length ≤ sizeLine)) (some (.par is es))
    | some _ => gd (is.length == ts.length) (some (.par is es)))
  | .Assign [.Tuple ts _ _] v _ => gd (c.calm && !(isComp v) && !(isTupE v)) do
    let is ← cNames c ts
    let e ← E.e c v
    some (.unp is e)
  | .Assign [.Subscript (.Name y yp) a _] v _ => gd (c.calm && !(isComp v) && notSlice a) (match dgOf c (.Name y yp) a with
    | some q => (E.e c v).map (.dset q.1 q.2)
    | none => do
      let i ← c.rd y
      let a' ← E.e c a
      let e ← E.e c v
      some (.sub i a' e))
  | .AugAssign (.Name x _) o v _ => do
    let i ← c.wr x
    let o' ← (match o with
      | .Add => some BOp.add
      | .Sub => some .sub
      | .Mult => some .mul
      | _ => none)
    let e ← E.e c v
    some (.aug i o' e)
  | .Expr (.Constant (.str _) _ _) _ => some .pas
  | .Expr e _ => gd (!(isComp e)) ((E.e c e).map .exp)
  | .Return none _ => some .retN
  | .Return (some e) _ => (E.e c e).map .ret
  | .If t a b _ => do
    let t' ← E.t c t
    let a' ← p.ss c a
    let b' ← p.ss c b
    some (.iff t' a' b')
  | .For tg iter b [] _ => gd (c.calm && notSet iter) do
    let it ← E.i c tg iter
    let t ← cTg c tg
    let b' ← p.ss c b
    some (.forr t it b')
  | .While t b [] _ => do
    let t' ← E.t c t
    let b' ← p.ss c b
    some (.whl t' b')
  | .Raise (some (.Call (.Name x _) [.Constant (.str _) _ _] [] _)) none _ => gd (c.calm && c.gl x && c.T.exs.contains x) (some (.rse x))
  | .Try b (h :: hs) [] [] _ => gd c.calm do
    let b' ← p.ss c b
    let hs' ← p.h c (h :: hs)
    some (.tryy b' hs')
  | .Pass _ => some .pas
  | .Break _ => some .brk
  | .Continue _ => some .cnt
  | _ => none
def stepSs (p : CmpS) (c : CE) : List Stmt → Option Sms
  | [] => some .nil
  | s :: r => do
    let s' ← p.s c s
    let r' ← p.ss c r
    some (.cons s' r')
def stepH (p : CmpS) (c : CE) : List ExceptHandler → Option Hds
  | [] => some .nil
  | .ExceptHandler (some (.Name x _)) none (b :: bs) _ :: r => gd (c.gl x && c.T.exs.contains x) do
    let b' ← p.ss { c with calm := false } (b :: bs)
    let r' ← p.h c r
    some (.cons x b' r')
  | _ => none
def cmpS (E : Cmp) : Nat → CmpS
  | 0 => ⟨fun _ _ => none, fun _ _ => none, fun _ _ => none⟩
  | n + 1 => ⟨stepS E (cmpS E n), stepSs (cmpS E n), stepH (cmpS E n)⟩
end WV
namespace WV
open PySem PySem.Spec PyProof.Rows L2
/-! ## what compile answers is right: expressions -/
structure TabF (P : Program) (w : World) (K : KW) (mg : Str → Option Value) (base : Heap) (k : Nat) (T : TabC) (C : Cal) : Prop where
  fn : ∀ f i, T.fns.lookup f = some i → ∃ fa fd ps, FnF P w K mg base k f i.np (C.fn f) fa fd ps
  st : ∀ f i, T.fns.lookup f = some i → ∀ cs dl, C.fn f cs dl ≠ .stuck → cs.length = i.np
  kw : ∀ q ∈ T.kws, ∃ fa fd ps np, FnF P w K mg base k q.1 np (C.fn q.1) fa fd ps ∧ (∀ cs dl, C.fn q.1 cs dl ≠ .stuck → cs.length = np) ∧ KBn K fd ps q.2.1 q.2.2.1 (pick q.2.2.2) (pick q.2.2.2) ∧ q.2.1 + q.2.2.1.length = q.2.2.2.length
  cst : ∀ x d, T.cst.lookup x = some d → ∃ u v, mg x = some u ∧ RelV v u ∧ ∀ F, Rep K F v d
  blt : ∀ x ∈ T.blt, mg x = none
  ex : ∀ c ∈ T.exs, ∃ D, mg c = some (.ref D) ∧ (∃ bmB B newId initId, ExcBaseFacts B newId initId bmB ∧ PySem.W.excIn K D bmB newId = true) ∧ PySem.W.keepIn K (.ref D) = true ∧ PySem.W.subIn K (.ref D) (.type "BaseException") = some true ∧ PySem.W.typeIn K (.ref D) = some (.type "type")
  xm : ∀ c ∈ T.exs, ∀ c' ∈ T.exs, ∀ D D', mg c = some (.ref D) → mg c' = some (.ref D') → PySem.W.exmOne K (.ref D) (.ref D') = some (excHd c c')
  hex : C.ex = T.exs
structure Good (c : CE) (C : Cal) (k : Nat) (X : Cx) : Prop where
  calm : c.calm = true → X.calm = true
  N : X.N = c.N
  nd : c.N.Nodup
  sc : X.env.scope = c.sc
  knd : c.sc.kind = .function
  fn : ∀ x, c.rs.names.lookup x = some .cell → X.fn x = true
  room : c.calm = true → Room k X.A
  tab : TabF X.prog X.w X.KW X.mg X.base k c.T C
theorem gd_some {α : Type} {b : Bool} {o : Option α} {x : α} (h : gd b o = some x) : b = true ∧ o = some x := by
  unfold gd at h
  split at h
  · exact ⟨by assumption, h⟩
  · cases h
theorem ixOf_get : ∀ {N : List Str} {x : Str} {i : Nat}, ixOf N x = some i → N[i]? = some x
  | [], _, _, h => by cases h
  | y :: r, x, i, h => by
    unfold ixOf at h
    split at h
    · rename_i e
      cases h
      have : x = y := by simpa using e
      rw [this]; rfl
    · obtain ⟨j, h1, rfl⟩ := Option.map_eq_some_iff.mp h
      rw [List.getElem?_cons_succ]
      exact ixOf_get h1
theorem star_eq {e : Expr} {es : List Expr} {env : Env} (h : notStar e = true) : starEach (e :: es) env = (false, eval e env) :: starEach es env := by
  cases e <;> first | rfl | cases h
theorem star_any {pos : Pos} {env : Env} : ∀ {es : List Expr}, es.all notStar = true → (backTo pos (starEach es env)).any (·.1) = false
  | [], _ => rfl
  | e :: es, h => by
    have h' : notStar e = true ∧ es.all notStar = true := by simpa using h
    rw [star_eq h'.1]
    have ih := star_any (pos := pos) (env := env) h'.2
    unfold backTo at ih ⊢
    rw [List.map_cons, List.any_cons, ih]
    rfl
theorem star_all {pos : Pos} {env : Env} {e : Expr} (h : notStar e = true) : ((backTo pos (starEach [e] env)).all (fun x => !x.1) && (backToKw pos (keywordEach [] env)).all (fun x => x.1.isSome) && decide (([e] : List Expr).length + ([] : List Keyword).length + (if ([] : List Keyword).isEmpty then 0 else 1) < 30)) = true := by
  rw [star_eq h]
  rfl
theorem set_eq {e : Expr} {env : Env} (h : notSet e = true) (x : Value) : foldedSetIterable e env x = pure x := by
  cases e <;> first | rfl | cases h
theorem ix_plain {e : Expr} (h : notSlice e = true) : PlainIx e := by
  intro o i
  cases e <;> first | rfl | cases h
theorem test_plain {e : Expr} {env : Env} (h : plainTest e = true) (whole : Sem Value) : isTrue e env whole = (do let v ← whole; standAt e.pos; holding [v] (truthy v)) := by
  cases e with
  | UnaryOp o a p => cases o <;> first | rfl | cases h
  | _ => first | rfl | cases h
section
variable {c : CE} {C : Cal} {k : Nat} {X : Cx} {dA : DA} {W : WX}
theorem Good.rd (G : Good c C k X) {x : Str} {i : Nat} (h : c.rd x = some i) (pos : Pos) : PE X (.Name x pos) (tVar i) := by
  unfold CE.rd at h
  split at h
  · rename_i q
    simp only [Bool.and_eq_true, Bool.not_eq_true', CE.vis, Bool.or_eq_true] at q
    obtain ⟨⟨q1, q2⟩, q3⟩ := q
    refine pe_var (by rw [G.N]; exact ixOf_get h) ?_ q2 q3
    unfold Vis
    rw [G.sc]
    rcases q1 with (q | q) | q
    · exact .inl (by simpa using q)
    · exact .inr (.inl (by simpa using q))
    · exact .inr (.inr (by simpa using q))
  · cases h
theorem Good.wr (G : Good c C k X) {x : Str} {i : Nat} (h : c.wr x = some i) : X.N.Nodup ∧ X.N[i]? = some x ∧ L2.Loc X.env.scope x ∧ (X.fn x = true ∨ X.env.scope.names.lookup x = some .local) := by
  unfold CE.wr at h
  split at h
  · rename_i q
    simp only [Bool.and_eq_true, CE.loc, CE.own, Bool.or_eq_true] at q
    obtain ⟨q1, q2⟩ := q
    refine ⟨by rw [G.N]; exact G.nd, by rw [G.N]; exact ixOf_get h, ?_, ?_⟩
    · unfold L2.Loc
      rw [G.sc]
      rcases q1 with q | q
      · exact .inl (by simpa using q)
      · exact .inr (by simpa using q)
    · rw [G.sc]
      rcases q2 with q | q
      · exact .inl (G.fn x (by simpa using q))
      · exact .inr (by simpa using q)
  · cases h
theorem Good.gl (G : Good c C k X) {x : Str} (h : c.gl x = true) : Gl X x ∧ (x == ("__debug__" : Str)) = false := by
  unfold CE.gl at h
  simp only [Bool.and_eq_true, Bool.not_eq_true'] at h
  refine ⟨?_, h.2⟩
  show X.env.scope.names.lookup x = _
  rw [G.sc]
  simpa using h.1
theorem Good.bl (G : Good c C k X) {x : Str} (h : c.bl x = true) : Gl X x ∧ X.mg x = none ∧ x ≠ "__name__" ∧ (x == ("__debug__" : Str)) = false := by
  unfold CE.bl at h
  simp only [Bool.and_eq_true, Bool.not_eq_true'] at h
  refine ⟨(G.gl h.1.1).1, G.tab.blt x (by simpa using h.1.2), by simpa using h.2, (G.gl h.1.1).2⟩
theorem takesF {X : Cx} : Takes X WF := fun u s' ⟨a, B, sI, pins, σ, H, cls, d, e, I, nb, up, sky, na, os, ag, w⟩ => w.elim
end
structure Snd (p : Cmp) : Prop where
  e : ∀ {c : CE} {C : Cal} {k : Nat} {X : Cx} {dA : DA} {W : WX} {e : Expr} {x : Ex}, Good c C k X → Takes X W → p.e c e = some x → PE X e (TEof X dA W (evE C x))
  nm : ∀ {c : CE} {C : Cal} {k : Nat} {X : Cx} {e : Expr} {i : Nat}, Good c C k X → p.e c e = some (.v i) → PE X e (tVar i)
  t : ∀ {c : CE} {C : Cal} {k : Nat} {X : Cx} {dA : DA} {W : WX} {e : Expr} {x : Ex}, Good c C k X → Takes X W → p.t c e = some x → PT X e (TTof X dA W (evT C x))
  w : ∀ {c : CE} {C : Cal} {k : Nat} {X : Cx} {dA : DA} {W : WX} {o : BoolOp} {l : List Expr} {pos : Pos} {x : Ex}, Good c C k X → Takes X W → p.t c (.BoolOp o l pos) = some x → PW X (.BoolOp o l pos) (TTof X dA W (evT C x))
  es : ∀ {c : CE} {C : Cal} {k : Nat} {X : Cx} {dA : DA} {W : WX} {e : List Expr} {x : Exs}, Good c C k X → Takes X W → p.es c e = some x → PA X e (TAof X dA W (evEs C x)) ∧ PA X e (TCof X dA W (evA C x)) ∧ PA X e (TRof X dA W (evR C x)) ∧ e.all notStar = true
  es0 : ∀ {c : CE} {x : Exs}, p.es c [] = some x → x = .nil
  ks : ∀ {c : CE} {C : Cal} {k : Nat} {X : Cx} {dA : DA} {W : WX} {e : List Keyword} {x : Exs} {ns : List Str}, Good c C k X → Takes X W → p.ks c e = some (x, ns) →
    PK X e (TCof X dA W (evA C x)) ∧ ∀ pos, (backToKw pos (keywordEach e X.env)).all (·.1.isSome) = true ∧ (backToKw pos (keywordEach e X.env)).filterMap (·.1) = ns ∧ (backToKw pos (keywordEach e X.env)).any (·.1.isNone) = false
  x : ∀ {c : CE} {C : Cal} {k : Nat} {X : Cx} {dA : DA} {W : WX} {e : Option Expr} {x : Exo}, Good c C k X → Takes X W → p.x c e = some x → PO X e (TXof X dA W (evX C x))
  c : ∀ {c : CE} {C : Cal} {k : Nat} {X : Cx} {dA : DA} {W : WX} {e : List Expr} {x : Exo}, Good c C k X → Takes X W → p.c c e = some x → PTs X e (TTof X dA W (evC C x))
  i : ∀ {c : CE} {C : Cal} {k : Nat} {X : Cx} {dA : DA} {W : WX} {tg e : Expr} {x : Itr}, Good c C k X → Takes X W → p.i c tg e = some x → PI X tg e (TIof X dA W (evI C x))
section
variable {p : Cmp} {c : CE} {C : Cal} {k : Nat} {X : Cx} {dA : DA} {W : WX} {e : Expr} {x : Ex}
/-- an operand -/
theorem opd_of (h : PE X e (TEof X dA W (evE C x))) (hn : ∀ i, x = .v i → PE X e (tVar i)) : PE X e (TOof X dA W fun s => opd x (evE C x s) s) := by
  cases x with
  | v i => exact r_nameO (hn i rfl)
  | _ => exact r_opd h
theorem Snd.o (S : Snd p) (G : Good c C k X) (tk : Takes X W) (h : p.e c e = some x) : PE X e (TOof X dA W fun s => opd x (evE C x s) s) := opd_of (S.e G tk h) fun i q => S.nm G (by rw [h, q])
theorem room65 {k : Nat} {A : Around} (r : Room k A) : A.units + 65 < cLine := by have := r.un; omega
theorem bin_ok {X : Cx} {op : Operator} {o : BOp} (h : bOp op = some o) : OpOk X (binaryOp op) (binG o) := by
  cases op <;> simp only [bOp] at h <;> first | (cases h; done) | skip
  all_goals cases h
  · exact add_ok
  · exact sub_ok
  · exact mulG_ok
  · exact mod_ok
  · exact pow_ok
  · exact div_ok
theorem cmp_ok {X : Cx} {op : CmpOp} {o : COp} (hu : X.A.units + 65 < cLine) (h : cOp op = some o) : OpOk X (compareOp op) (cmpG o) := by
  cases op <;> simp only [cOp] at h <;> first | (cases h; done) | skip
  all_goals cases h
  · exact eq_ok (by omega)
  · exact ne_ok (by omega)
  · exact lt_ok (by omega)
  · exact le_ok
  · exact gt_ok
  · exact ge_ok
  · exact is_ok
  · exact isNot_ok
  · exact in_ok hu
  · exact notIn_ok hu
theorem gI_bool {f : Int → Int → Bool} {C : Int → Int → Bool} {d e : D} {rv : RV} (h : gI C (fun i j => .bool (f i j)) d e = some rv) : ∃ b, rv = .sh (.bool b) := by
  unfold gI at h
  split at h
  · split at h
    · cases h; exact ⟨_, rfl⟩
    · cases h
  · cases h
theorem cmpG_bool : ∀ {o : COp} {d e : D} {rv : RV}, cmpG o d e = some rv → ∃ b, rv = .sh (.bool b)
  | .eq, d, e, rv, h => by
    simp only [cmpG, gEq] at h
    split at h <;> cases h
    exact ⟨_, rfl⟩
  | .ne, d, e, rv, h => by
    simp only [cmpG, gNe] at h
    split at h <;> cases h
    exact ⟨_, rfl⟩
  | .lt, d, e, rv, h => by
    simp only [cmpG, gLt] at h
    split at h
    · cases h; exact ⟨_, rfl⟩
    · split at h <;> cases h
      exact ⟨_, rfl⟩
  | .le, d, e, rv, h => gI_bool h
  | .gt, d, e, rv, h => gI_bool h
  | .ge, d, e, rv, h => gI_bool h
  | .is, d, e, rv, h => by
    simp only [cmpG, gIs] at h
    split at h
    · cases h; exact ⟨_, rfl⟩
    · split at h <;> cases h
      exact ⟨_, rfl⟩
  | .isn, d, e, rv, h => by
    simp only [cmpG, gIsNot] at h
    split at h
    · cases h; exact ⟨_, rfl⟩
    · split at h <;> cases h
      exact ⟨_, rfl⟩
  | .inn, d, e, rv, h => by
    obtain ⟨b, _, q⟩ := Option.map_eq_some_iff.mp h
    exact ⟨b, q.symm⟩
  | .nin, d, e, rv, h => by
    obtain ⟨b, _, q⟩ := Option.map_eq_some_iff.mp h
    exact ⟨!b, q.symm⟩
theorem const_ok {v : Const} {d : D} {j : Nat} {pos : Pos} (h : cConst v = some d) : PE X (.Constant v j pos) (TEof X dA W fun s => .ok (.sh d) s) := by
  cases v <;> simp only [cConst] at h <;> first | (cases h; done) | skip
  all_goals cases h
  · exact r_const (c := .lit .none) pe_non fun F => .non
  · exact r_const (c := .lit .none) pe_bl fun F => .bl _
  · exact r_const (c := .lit .none) pe_int fun F => .int _
  · exact r_const (c := .lit .none) pe_str fun F => .str _
/-! ### names, targets -/
theorem ids_ok {X : Cx} (G : Good c C k X) : ∀ (l : List Expr) (is : List Nat), cNames c l = some is → PGs X l (gIds is) ∧ (assignEach l X.env).length = is.length ∧ (assignEach l X.env).findIdx? (·.1) = none ∧ is.length = l.length := by
  intro l
  induction l with
  | nil =>
    intro is h
    cases h
    exact ⟨pgs_nil, rfl, rfl, rfl⟩
  | cons e r ih =>
    intro is h
    cases e with
    | Name x pos =>
      simp only [cNames, Option.bind_eq_bind, Option.bind_eq_some_iff] at h
      obtain ⟨i, h1, is', h2, h3⟩ := h
      cases h3
      obtain ⟨g1, g2, g3, g4⟩ := G.wr h1
      obtain ⟨q1, q2, q3, q4⟩ := ih is' h2
      refine ⟨pgs_cons (pg_name g1 g2 g3 g4) q1 rfl, ?_, ?_, by rw [List.length_cons, List.length_cons, q4]⟩
      · show (assignEach r X.env).length + 1 = _
        rw [q2]; rfl
      · show List.findIdx? (·.1) ((false, assign (.Name x pos) X.env) :: assignEach r X.env) = none
        rw [List.findIdx?_cons, q3]
        rfl
    | _ => cases h
theorem tg_ok {X : Cx} {tg : Expr} {t : Tg} (G : Good c C k X) (h : cTg c tg = some t) : PG X tg (TGof X dA t) := by
  unfold cTg at h
  split at h
  · obtain ⟨i, h1, rfl⟩ := Option.map_eq_some_iff.mp h
    obtain ⟨g1, g2, g3, g4⟩ := G.wr h1
    exact r_gname (pg_name g1 g2 g3 g4)
  · split at h
    · rename_i hc
      obtain ⟨is, h1, rfl⟩ := Option.map_eq_some_iff.mp h
      obtain ⟨q1, q2, q3, _⟩ := ids_ok G _ _ h1
      exact r_gtup (G.calm hc) q1 q2 q3
    · cases h
  · cases h
/-! ### comprehensions -/
theorem Good.blk (G : Good c C k X) {scope : Scope} (hk : scope.kind = .function) (s : Shared) (H : Hp) (A : Addr) (cl : List (Str × Addr)) (fp : List Addr) : Good (c.blk scope) C k (X.blk s H scope (compEnvC scope cl A X.env) fp) := by
  refine ⟨G.calm, G.N, G.nd, ?_, hk, fun x h => ?_, G.room, G.tab⟩
  · show relabel scope X.env = relS scope c.sc
    rw [← G.sc]
    rfl
  · show (scope.names.lookup x == some .cell) = true
    rw [show scope.names.lookup x = some .cell from h]
    rfl
theorem blk_ok {N : List Str} {sc scope : Scope} (h : blkB N sc scope = true) : BlkOk N sc scope (ownOf N scope) ∧ scope.kind = .function := by
  unfold blkB at h
  simp only [Bool.and_eq_true] at h
  obtain ⟨⟨h1, h2⟩, h3⟩ := h
  have hk : scope.kind = .function := by simpa using h1
  refine ⟨⟨hk, fun y hy => ?_, fun q hq => ?_, fun y hy hf => ?_, fun y hy hl => ?_⟩, hk⟩
  · have := List.all_eq_true.mp h2 y hy
    simpa using this
  · obtain ⟨y, hy, e⟩ := List.mem_filterMap.mp hq
    split at e
    · obtain ⟨i, e1, rfl⟩ := Option.map_eq_some_iff.mp e
      exact ixOf_get e1
    · cases e
  · have := List.all_eq_true.mp h3 y hy
    rw [hf] at this
    simpa using this
  · cases e : ixOf N y.1 with
    | some i =>
      refine .inl (List.mem_map.mpr ⟨(y.1, i), List.mem_filterMap.mpr ⟨y, hy, ?_⟩, rfl⟩)
      have : (y.2 == NameKind.local || y.2 == .cell) = true := by
        rcases hl with z | z <;> rw [z] <;> rfl
      rw [if_pos this, e]
      rfl
    | none =>
      refine .inr fun hm => ?_
      clear h1 h2 h3 hy hl hk
      induction N with
      | nil => cases hm
      | cons z r ih =>
        unfold ixOf at e
        split at e
        · cases e
        · rename_i ne
          rcases List.mem_cons.mp hm with q | q
          · exact ne (by simpa using q)
          · exact ih (Option.map_eq_none_iff.mp e) q
structure LcOk (X : Cx) (dA : DA) (C : Cal) (own : List (Str × Nat)) (t : Tg) (it : Itr) (o : Exo) (el : Ex) (elt tg iter : Expr) (ifs : List Expr) (scope : Scope) : Prop where
  ht : ∀ i ∈ t.ids, i ∈ own.map (·.2)
  hi : ∀ W, Takes X W → PI X tg iter (TIof X dA W (evI C it))
  ok : BlkOk X.N X.env.scope scope own
  hg : ∀ (s : Shared) (H : Hp) (A : Addr) (cl : List (Str × Addr)) (fp : List Addr), PG (X.blk s H scope (compEnvC scope cl A X.env) fp) tg (TGof (X.blk s H scope (compEnvC scope cl A X.env) fp) dA t)
  htt : ∀ (s : Shared) (H : Hp) (A : Addr) (cl : List (Str × Addr)) (fp : List Addr), PTs (X.blk s H scope (compEnvC scope cl A X.env) fp) ifs (TTof (X.blk s H scope (compEnvC scope cl A X.env) fp) dA WF (evC C o))
  he : ∀ (s : Shared) (H : Hp) (A : Addr) (cl : List (Str × Addr)) (fp : List Addr), PE (X.blk s H scope (compEnvC scope cl A X.env) fp) elt (TEof (X.blk s H scope (compEnvC scope cl A X.env) fp) dA WF (evE C el))
  hs : ∀ x, foldedSetIterable iter X.env x = pure x
theorem lc_ok (S : Snd p) (G : Good c C k X) {elt tg iter : Expr} {ifs : List Expr} {scope : Scope} {q : List Nat × Tg × Itr × Exo × Ex} (h : stepComp p c elt tg iter ifs scope = some q) :
    X.calm = true ∧ q.1 = (ownOf c.N scope).map (·.2) ∧ LcOk X dA C (ownOf c.N scope) q.2.1 q.2.2.1 q.2.2.2.1 q.2.2.2.2 elt tg iter ifs scope := by
  obtain ⟨hb, h⟩ := gd_some h
  simp only [Bool.and_eq_true] at hb
  obtain ⟨⟨b1, b2⟩, b3⟩ := hb
  simp only [Option.bind_eq_bind, Option.bind_eq_some_iff] at h
  obtain ⟨it, h1, t, h2, o, h3, el, h4, h7⟩ := h
  obtain ⟨h5, h6⟩ := gd_some h7
  cases h6
  obtain ⟨ok, hk⟩ := blk_ok b3
  refine ⟨G.calm b1, rfl, ⟨fun i hi => ?_, fun W tk => S.i G tk h1, by rw [G.N, G.sc]; exact ok, fun s H A cl fp => tg_ok (G.blk hk s H A cl fp) h2, fun s H A cl fp => S.c (G.blk hk s H A cl fp) takesF h3, fun s H A cl fp => S.e (G.blk hk s H A cl fp) takesF h4, set_eq b2⟩⟩
  have := List.all_eq_true.mp h5 i hi
  exact List.contains_iff_mem.mp this
end
end WV
namespace WV
open PySem PySem.Spec PyProof.Rows L2
theorem bb_len : bootBuiltins "len" = some (.builtin "len") := by kernel_rfl
theorem bb_all : bootBuiltins "all" = some (.builtin "all") := by kernel_rfl
theorem bb_any : bootBuiltins "any" = some (.builtin "any") := by kernel_rfl
theorem bb_sum : bootBuiltins "sum" = some (.builtin "sum") := by kernel_rfl
theorem bb_min : bootBuiltins "min" = some (.builtin "min") := by kernel_rfl
theorem bb_isi : bootBuiltins "isinstance" = some (.builtin "isinstance") := by kernel_rfl
theorem bb_tuple : bootBuiltins "tuple" = some (.type "tuple") := by kernel_rfl
theorem bb_list : bootBuiltins "list" = some (.type "list") := by kernel_rfl
theorem bb_int : bootBuiltins "int" = some (.type "int") := by kernel_rfl
theorem bb_bool : bootBuiltins "bool" = some (.type "bool") := by kernel_rfl
theorem bb_str : bootBuiltins "str" = some (.type "str") := by kernel_rfl
section
variable {p : Cmp} {c : CE} {C : Cal} {k : Nat} {X : Cx} {dA : DA} {W : WX} {e : Expr} {x : Ex} {a : Expr} {fa : Sto → Out Opd}
theorem bi_ok (G : Good c C k X) (hc : c.calm = true) {f : Str} {b : Bi} {fp pos : Pos} (h : biOf f = some b) (hb : c.bl f = true) (hs : notStar a = true) (ha : PE X a (TOof X dA W fa)) :
    PE X (.Call (.Name f fp) [a] [] pos) (TEof X dA W fun s => (fa s).bind fun x s1 => lift1 (biG b) x s1) := by
  obtain ⟨g1, g2, g3, g4⟩ := G.bl hb
  unfold biOf at h
  split at h
  · rename_i q
    have : f = ("len" : Str) := by simpa using q
    subst this
    cases h
    exact r_b1 len_ok g1 g2 bb_len g3 g4 ha (star_eq hs)
  split at h
  · rename_i q
    have : f = ("all" : Str) := by simpa using q
    subst this
    cases h
    exact r_b1 (all_ok (G.calm hc)) g1 g2 bb_all g3 g4 ha (star_eq hs)
  split at h
  · rename_i q
    have : f = ("any" : Str) := by simpa using q
    subst this
    cases h
    exact r_b1 (any_ok (G.calm hc)) g1 g2 bb_any g3 g4 ha (star_eq hs)
  split at h
  · rename_i q
    have : f = ("sum" : Str) := by simpa using q
    subst this
    cases h
    exact r_b1 (sum_ok (G.calm hc)) g1 g2 bb_sum g3 g4 ha (star_eq hs)
  split at h
  · rename_i q
    have : f = ("tuple" : Str) := by simpa using q
    subst this
    cases h
    exact r_b1t tup_ok g1 g2 bb_tuple g3 g4 ha (star_eq hs)
  split at h
  · rename_i q
    have : f = ("list" : Str) := by simpa using q
    subst this
    cases h
    exact r_b1t lst_ok g1 g2 bb_list g3 g4 ha (star_eq hs)
  split at h
  · rename_i q
    have : f = ("int" : Str) := by simpa using q
    subst this
    cases h
    exact r_b1t int_ok g1 g2 bb_int g3 g4 ha (star_eq hs)
  · cases h
theorem dsp_ok {p : Cmp} {pos : Pos} (S : Snd p) (G : Good c C k X) (tk : Takes X W) : ∀ {ks : List (Option Expr)} {vs : List Expr} {q : List Key × Exs}, dspC p c ks vs = some q →
    ∃ trs : List (TE × TE), PPs X pos ks vs trs ∧ ks.all (·.isSome) = true ∧ ks.length = vs.length ∧ q.1.length = ks.length ∧
      ∀ σ H (Q : List (V × V) → Hp → Prop), TAof X dA W (evEs C q.2) σ H (fun ys H3 => Q ((q.1.map kV).zip ys) H3) → tPairs trs σ H Q
  | [], [], q, h => by
    cases h
    refine ⟨[], pps_nil, rfl, rfl, rfl, fun σ H Q ⟨F, s, R, h⟩ => ?_⟩
    exact h [] F H R Ext.refl .nil
  | [], _ :: _, _, h => by simp [dspC] at h
  | none :: _, _, _, h => by simp [dspC] at h
  | some e :: ks, [], _, h => by cases e <;> simp [dspC] at h
  | some e :: ks, v :: vs, q, h => by
    cases e <;> first | (simp [dspC] at h; done) | skip
    rename_i kc j kp
    simp only [dspC, Option.bind_eq_bind, Option.bind_eq_some_iff] at h
    obtain ⟨d, h1, kk, h2, x, h3, r, h4, h5⟩ := h
    cases h5
    obtain ⟨trs, e1, e2, e3, e4, e5⟩ := dsp_ok S G tk h4
    have hk : PE X (.Constant kc j kp) (tC (kV kk)) := by
      have := keyV_some h2
      subst this
      cases kk with
      | inl i =>
        cases kc <;> simp only [cConst] at h1 <;> first | (cases h1; done) | skip
        cases h1
        exact pe_int
      | inr z =>
        cases kc <;> simp only [cConst] at h1 <;> first | (cases h1; done) | skip
        cases h1
        exact pe_str
    refine ⟨(tC (kV kk), TEof X dA W (evE C x)) :: trs, pps_cons hk (S.e G tk h3) e1, by rw [List.all_cons, e2]; rfl, by rw [List.length_cons, List.length_cons, e3], by rw [List.length_cons, List.length_cons, e4], fun σ H Q ⟨F, s, R, h⟩ => ?_⟩
    refine ⟨F, s, R, PostE.imp (acons_split R h) fun v H1 hT => ?_⟩
    exact e5 σ H1 _ hT
theorem dg_ok (G : Good c C k X) {a b : Expr} {q : Nat × Nat} (h : dgOf c a b = some q) : ∃ y p j p2, a = .Name y p ∧ b = .Constant (.int ((q.2 + 1 : Nat) : Int)) j p2 ∧ c.rd y = some q.1 := by
  unfold dgOf at h
  split at h
  · rename_i y p k j p2
    split at h
    · rename_i z
      obtain ⟨i, h1, rfl⟩ := Option.map_eq_some_iff.mp h
      simp only [Bool.and_eq_true, decide_eq_true_eq] at z
      have e : k = ((k.toNat - 1 + 1 : Nat) : Int) := by omega
      exact ⟨y, p, j, p2, rfl, congrArg (fun z => Expr.Constant (.int z) j p2) e, h1⟩
    · cases h
  · cases h
theorem dc_ok (G : Good c C k X) {a : Expr} {i : Nat} (h : dcOf c a = some i) : ∃ y p j p2 p3, a = .Subscript (.Name y p) (.Constant (.int 0) j p2) p3 ∧ c.rd y = some i := by
  unfold dcOf at h
  split at h
  · split at h
    · rename_i z
      simp only [Bool.and_eq_true, decide_eq_true_eq] at z
      obtain ⟨_, rfl⟩ := z
      exact ⟨_, _, _, _, _, rfl, h⟩
    · cases h
  · cases h
theorem cs_ok (G : Good c C k X) {a : Expr} {lo hi : Option Expr} {q : Nat × Nat} (h : csOf c a lo hi = some q) : ∃ y p j p2, a = .Name y p ∧ lo = none ∧ hi = some (.Constant (.int (q.2 : Int)) j p2) ∧ c.rd y = some q.1 := by
  unfold csOf at h
  split at h
  · rename_i y p k j p2
    split at h
    · rename_i z
      obtain ⟨i, h1, rfl⟩ := Option.map_eq_some_iff.mp h
      simp only [Bool.and_eq_true, decide_eq_true_eq] at z
      have e : k = ((k.toNat : Nat) : Int) := by omega
      exact ⟨y, p, j, p2, rfl, rfl, congrArg (fun z => some (Expr.Constant (.int z) j p2)) e, h1⟩
    · cases h
  · cases h
theorem is0_ok {a : Expr} (h : is0 a = true) : ∃ j p, a = .Constant (.int 0) j p := by
  unfold is0 at h
  split at h
  · rw [decide_eq_true_eq] at h
    subst h
    exact ⟨_, _, rfl⟩
  · cases h
theorem ty_ok (G : Good c C k X) {y : Str} {t : Ty} {p2 : Pos} (h : tyOf y = some t) (hb : c.bl y = true) : PE X (.Name y p2) (tC (.ty (tyN t))) := by
  obtain ⟨g1, g2, g3, g4⟩ := G.bl hb
  unfold tyOf at h
  split at h
  · rename_i q
    have : y = ("int" : Str) := by simpa using q
    subst this
    cases h
    exact pe_bltn g1 g2 bb_int rfl g3 g4
  split at h
  · rename_i q
    have : y = ("bool" : Str) := by simpa using q
    subst this
    cases h
    exact pe_bltn g1 g2 bb_bool rfl g3 g4
  split at h
  · rename_i q
    have : y = ("str" : Str) := by simpa using q
    subst this
    cases h
    exact pe_bltn g1 g2 bb_str rfl g3 g4
  split at h
  · rename_i q
    have : y = ("tuple" : Str) := by simpa using q
    subst this
    cases h
    exact pe_bltn g1 g2 bb_tuple rfl g3 g4
  split at h
  · rename_i q
    have : y = ("list" : Str) := by simpa using q
    subst this
    cases h
    exact pe_bltn g1 g2 bb_list rfl g3 g4
  · cases h
/-- a call of a def of the table -/
theorem fn_ok (S : Snd p) (G : Good c C k X) (tk : Takes X W) (hc : c.calm = true) {f : Str} {i : FI} {l : List Expr} {xs : Exs} {fp pos : Pos} (hg : c.gl f = true) (hi : c.T.fns.lookup f = some i) (hl : p.es c (e :: l) = some xs) :
    PE X (.Call (.Name f fp) (e :: l) [] pos) (TEof X dA W (evE C (.call f xs))) := by
  obtain ⟨g1, g2⟩ := G.gl hg
  obtain ⟨fa, fd, ps, F⟩ := G.tab.fn f i hi
  obtain ⟨_, h2, _, h4⟩ := S.es (dA := dA) G tk hl
  have h4' : notStar e = true ∧ l.all notStar = true := by simpa using h4
  exact r_call tk F (G.room hc) g1 (G.tab.st f i hi) h2 g2 (star_eq h4'.1) (star_any h4'.2)
theorem call_ok (S : Snd p) (G : Good c C k X) (tk : Takes X W) {f : Str} {l : List Expr} {kws : List Keyword} {fp pos : Pos} (h : stepCall p c f l kws = some x) :
    PE X (.Call (.Name f fp) l kws pos) (TEof X dA W (evE C x)) ∧ ∀ i, x ≠ .v i := by
  obtain ⟨hc, h⟩ := gd_some h
  cases kws with
  | nil =>
    dsimp only at h
    match l with
    | [] => cases h
    | [a] =>
      dsimp only at h
      cases hb : biOf f with
      | some b =>
        rw [hb] at h
        dsimp only at h
        obtain ⟨h0, h⟩ := gd_some h
        simp only [Bool.and_eq_true] at h0
        have gen : (p.e c a).map (Ex.bi b) = some x → PE X (.Call (.Name f fp) [a] [] pos) (TEof X dA W (evE C x)) ∧ ∀ i, x ≠ .v i := fun h => by
          obtain ⟨a', h1, rfl⟩ := Option.map_eq_some_iff.mp h
          exact ⟨bi_ok G hc hb h0.1 h0.2 (S.o G tk h1), fun _ => nofun⟩
        split at h
        · rename_i y py
          split at h
          · rename_i q
            obtain ⟨i, h1, rfl⟩ := Option.map_eq_some_iff.mp h
            have : f = ("len" : Str) := by
              have := (Bool.and_eq_true _ _ ▸ q : _ ∧ _).2
              simpa using this
            subst this
            obtain ⟨g1, g2, g3, g4⟩ := G.bl h0.1
            exact ⟨r_lens g1 g2 bb_len g3 g4 (G.rd h1 _) (star_eq h0.2), fun _ => nofun⟩
          · exact gen h
        · exact gen h
      | none =>
        rw [hb] at h
        obtain ⟨hg, h⟩ := gd_some h
        simp only [Option.bind_eq_bind, Option.bind_eq_some_iff] at h
        obtain ⟨i, h1, es, h2, h3⟩ := h
        cases h3
        exact ⟨fn_ok S G tk hc hg h1 h2, fun _ => nofun⟩
    | [a, b] =>
      dsimp only at h
      split at h
      · rename_i q
        have : f = ("isinstance" : Str) := by simpa using q
        subst this
        obtain ⟨h0, h⟩ := gd_some h
        simp only [Bool.and_eq_true] at h0
        split at h
        · rename_i y py
          simp only [Option.bind_eq_bind, Option.bind_eq_some_iff] at h
          obtain ⟨t, h1, h2⟩ := h
          obtain ⟨h3, h4⟩ := gd_some h2
          obtain ⟨a', h5, rfl⟩ := Option.map_eq_some_iff.mp h4
          obtain ⟨g1, g2, g3, g4⟩ := G.bl h0.1
          exact ⟨r_isi g1 g2 bb_isi g3 g4 (ty_ok G h1 h3) (S.o G tk h5) (star_eq h0.2), fun _ => nofun⟩
        · cases h
      split at h
      · rename_i q
        have : f = ("min" : Str) := by simpa using q
        subst this
        obtain ⟨h0, h⟩ := gd_some h
        simp only [Bool.and_eq_true] at h0
        simp only [Option.bind_eq_bind, Option.bind_eq_some_iff] at h
        obtain ⟨a', h1, b', h2, h3⟩ := h
        cases h3
        obtain ⟨g1, g2, g3, g4⟩ := G.bl h0.1.1
        exact ⟨r_min2 (G.calm hc) g1 g2 bb_min g3 g4 (S.o G tk h1) (S.o G tk h2) (star_eq h0.1.2) (star_eq h0.2) (star_any (by simpa using h0.2)), fun _ => nofun⟩
      · obtain ⟨hg, h⟩ := gd_some h
        simp only [Option.bind_eq_bind, Option.bind_eq_some_iff] at h
        obtain ⟨i, h1, es, h2, h3⟩ := h
        cases h3
        exact ⟨fn_ok S G tk hc hg h1 h2, fun _ => nofun⟩
    | a :: b :: d :: r =>
      obtain ⟨hg, h⟩ := gd_some h
      simp only [Option.bind_eq_bind, Option.bind_eq_some_iff] at h
      obtain ⟨i, h1, es, h2, h3⟩ := h
      cases h3
      exact ⟨fn_ok S G tk hc hg h1 h2, fun _ => nofun⟩
  | cons kw kws =>
    obtain ⟨hg, h⟩ := gd_some h
    simp only [Option.bind_eq_bind, Option.bind_eq_some_iff] at h
    obtain ⟨es, h1, wk, h2, q, h3, h4⟩ := h
    obtain ⟨ws, ks⟩ := wk
    cases h4
    obtain ⟨g1, g2⟩ := G.gl hg
    have hm : q ∈ c.T.kws := List.mem_of_find?_eq_some h3
    have hp := List.find?_some h3
    simp only [Bool.and_eq_true] at hp
    obtain ⟨⟨p1, p2⟩, p3⟩ := hp
    have p1 : q.1 = f := by simpa using p1
    have p2 : q.2.1 = l.length := by simpa using p2
    have p3 : q.2.2.1 = ks := by simpa using p3
    obtain ⟨fa, fd, ps, np, F, hst, hb, hn⟩ := G.tab.kw q hm
    rw [p1] at F hst
    rw [p2, p3] at hb hn
    obtain ⟨_, e2, _, e4⟩ := S.es (dA := dA) G tk h1
    obtain ⟨k1, k2⟩ := S.ks (dA := dA) G tk h2
    obtain ⟨k3, k4, k5⟩ := k2 pos
    refine ⟨?_, fun _ => nofun⟩
    cases l with
    | nil =>
      have := S.es0 h1
      subst this
      exact r_callk0 (C := C) tk F (G.room hc) g1 hst hb (by simpa using hn) k1 k3 k4 g2 (by rw [star_any e4, k5]; rfl)
    | cons a l =>
      have e4' : notStar a = true ∧ l.all notStar = true := by simpa using e4
      exact r_callk tk F (G.room hc) g1 hst hb hn e2 k1 k3 k4 g2 (star_eq e4'.1) (by rw [star_any e4, k5]; rfl)
/-! ### the step -/
theorem relabelAttr {y : Str} {p : Pos} {m : Str} {env : Env} {w : Sem Value} : attributeBase (.Name y p) m env w = w := rfl
theorem stepE_ok (S : Snd p) (G : Good c C k X) (tk : Takes X W) (h : stepE p c e = some x) : PE X e (TEof X dA W (evE C x)) ∧ ∀ i, x = .v i → PE X e (tVar i) := by
  unfold stepE at h
  split at h
  · obtain ⟨d, h1, rfl⟩ := Option.map_eq_some_iff.mp h
    exact ⟨const_ok h1, fun _ => nofun⟩
  · split at h
    · rename_i i h1
      cases h
      exact ⟨r_name (G.rd h1 _), fun j q => by cases q; exact G.rd h1 _⟩
    · obtain ⟨hg, h⟩ := gd_some h
      obtain ⟨d, h1, rfl⟩ := Option.map_eq_some_iff.mp h
      obtain ⟨g1, g2⟩ := G.gl hg
      obtain ⟨u, v, q1, q2, q3⟩ := G.tab.cst _ d h1
      exact ⟨r_const (c := .lit d) (pe_glob g1 q1 q2 g2) q3, fun _ => nofun⟩
  · obtain ⟨es, h1, rfl⟩ := Option.map_eq_some_iff.mp h
    exact ⟨r_tup (S.es G tk h1).1, fun _ => nofun⟩
  · obtain ⟨es, h1, rfl⟩ := Option.map_eq_some_iff.mp h
    exact ⟨r_lst (S.es G tk h1).1, fun _ => nofun⟩
  · simp only [Option.bind_eq_bind, Option.bind_eq_some_iff] at h
    obtain ⟨o', h1, a', h2, b', h3, h4⟩ := h
    cases h4
    exact ⟨r_bin (bin_ok h1) (S.o G tk h2) (S.o G tk h3), fun _ => nofun⟩
  · obtain ⟨a', h1, rfl⟩ := Option.map_eq_some_iff.mp h
    exact ⟨r_not (S.o G tk h1), fun _ => nofun⟩
  · obtain ⟨a', h1, rfl⟩ := Option.map_eq_some_iff.mp h
    exact ⟨r_neg (S.o G tk h1), fun _ => nofun⟩
  · obtain ⟨h0, h⟩ := gd_some h
    simp only [Bool.and_eq_true, Bool.not_eq_true'] at h0
    simp only [Option.bind_eq_bind, Option.bind_eq_some_iff] at h
    obtain ⟨o', h1, a', h2, b', h3, h4⟩ := h
    cases h4
    exact ⟨r_cmp (cmp_ok (room65 (G.room h0.1)) h1) (S.o G tk h2) (S.o G tk h3) h0.2, fun _ => nofun⟩
  · obtain ⟨h0, h⟩ := gd_some h
    simp only [Bool.and_eq_true, Bool.not_eq_true'] at h0
    simp only [Option.bind_eq_bind, Option.bind_eq_some_iff] at h
    obtain ⟨o', h1, o2', h1', a', h2, b', h3, d', h3', h4⟩ := h
    cases h4
    exact ⟨r_chn (cmp_ok (room65 (G.room h0.1)) h1) (cmp_ok (room65 (G.room h0.1)) h1') (fun _ _ _ => cmpG_bool) (S.o G tk h2) (S.o G tk h3) (S.o G tk h3') h0.2, fun _ => nofun⟩
  · simp only [Option.bind_eq_bind, Option.bind_eq_some_iff] at h
    obtain ⟨a', h1, b', h2, h4⟩ := h
    cases h4
    exact ⟨r_and (S.e G tk h1) (S.e G tk h2), fun _ => nofun⟩
  · simp only [Option.bind_eq_bind, Option.bind_eq_some_iff] at h
    obtain ⟨a', h1, b', h2, h4⟩ := h
    cases h4
    exact ⟨r_or (S.e G tk h1) (S.e G tk h2), fun _ => nofun⟩
  · refine ⟨⟨(S.e G tk h).run⟩, fun i q => ?_⟩
    subst q
    have h2 := S.nm G h
    exact ⟨h2.run⟩
  · simp only [Option.bind_eq_bind, Option.bind_eq_some_iff] at h
    obtain ⟨t', h0, a', h1, b', h2, h4⟩ := h
    cases h4
    exact ⟨r_ife (S.t G tk h0) (S.e G tk h1) (S.e G tk h2), fun _ => nofun⟩
  · split at h
    · rename_i q hq
      cases h
      obtain ⟨y, py, j, p2, rfl, rfl, rfl, h1⟩ := cs_ok G hq
      exact ⟨r_cuts (G.rd h1 _), fun _ => nofun⟩
    · simp only [Option.bind_eq_bind, Option.bind_eq_some_iff] at h
      obtain ⟨a', h0, l', h1, r', h2, h4⟩ := h
      cases h4
      exact ⟨r_slc sl_ok (S.o G tk h0) (S.x G tk h1) (S.x G tk h2), fun _ => nofun⟩
  · obtain ⟨h0, h⟩ := gd_some h
    obtain ⟨a', h1, rfl⟩ := Option.map_eq_some_iff.mp h
    have h0' := of_decide_eq_true h0
    subst h0'
    exact ⟨r_rev (S.o G tk h1), fun _ => nofun⟩
  · cases h
    exact ⟨r_emp, fun _ => nofun⟩
  · obtain ⟨h0, h⟩ := gd_some h
    obtain ⟨q, h1, rfl⟩ := Option.map_eq_some_iff.mp h
    simp only [Bool.and_eq_true, decide_eq_true_eq] at h0
    obtain ⟨trs, e1, e2, e3, e4, e5⟩ := dsp_ok (dA := dA) S G tk h1
    refine ⟨r_dsp e1 e2 e3 (fun z => ?_) h0.1 e4 e5, fun _ => nofun⟩
    rw [z] at h0
    exact absurd h0.2 (by decide)
  · split at h
    · rename_i q hq
      cases h
      obtain ⟨y, py, j, p2, rfl, rfl, h1⟩ := dg_ok G hq
      exact ⟨r_dget (G.rd h1 _), fun _ => nofun⟩
    · obtain ⟨h0, h⟩ := gd_some h
      simp only [Option.bind_eq_bind, Option.bind_eq_some_iff] at h
      obtain ⟨a', h1, b', h2, h4⟩ := h
      cases h4
      rw [Bool.and_eq_true] at h0
      exact ⟨r_ix (ix_ok (room65 (G.room h0.1))) (S.o G tk h1) (S.o G tk h2) (ix_plain h0.2), fun _ => nofun⟩
  · obtain ⟨q1, q2⟩ := call_ok (dA := dA) S G tk h
    exact ⟨q1, fun i q => absurd q (q2 i)⟩
  · obtain ⟨h0, h⟩ := gd_some h
    simp only [Bool.and_eq_true] at h0
    obtain ⟨i, h1, rfl⟩ := Option.map_eq_some_iff.mp h
    rename_i m _ _ _
    have : m = ("pop" : Str) := by simpa using h0.1
    subst this
    exact ⟨r_pop (G.rd h1 _) relabelAttr h0.2, fun _ => nofun⟩
  · obtain ⟨h0, h⟩ := gd_some h
    simp only [Bool.and_eq_true] at h0
    simp only [Option.bind_eq_bind] at h
    obtain ⟨i, h1, h⟩ := Option.bind_eq_some_iff.mp h
    split at h
    · rename_i z
      simp only [Bool.and_eq_true] at z
      cases h
      obtain ⟨j, p2, rfl⟩ := is0_ok z.2
      have q2 := beq_iff_eq.mp z.1.1
      subst q2
      exact ⟨r_dpop (G.rd h1 _) h0.1, fun _ => nofun⟩
    obtain ⟨a', h2, h4⟩ := Option.bind_eq_some_iff.mp h
    split at h4
    · rename_i q
      have q2 := beq_iff_eq.mp q
      subst q2
      cases h4
      exact ⟨r_app (G.rd h1 _) (S.e G tk h2) relabelAttr h0.1 (star_all h0.2) (star_eq h0.2), fun _ => nofun⟩
    split at h4
    · rename_i q
      have q2 := beq_iff_eq.mp q
      subst q2
      cases h4
      exact ⟨r_ext (G.rd h1 _) (S.o G tk h2) relabelAttr h0.1 (star_all h0.2) (star_eq h0.2), fun _ => nofun⟩
    split at h4
    · rename_i q
      have q2 := beq_iff_eq.mp q
      subst q2
      cases h4
      exact ⟨r_popAt (G.rd h1 _) (S.o G tk h2) relabelAttr h0.1 (star_all h0.2) (star_eq h0.2), fun _ => nofun⟩
    · cases h4
  · obtain ⟨q, h1, rfl⟩ := Option.map_eq_some_iff.mp h
    obtain ⟨g1, g2, L⟩ := lc_ok (dA := dA) S G h1
    rw [g2]
    exact ⟨r_lc g1 (by rw [G.N]; exact G.nd) L.ht (L.hi W tk) L.ok L.hg L.htt L.he L.hs, fun _ => nofun⟩
  · cases h
end
end WV
namespace WV
open PySem PySem.Spec PyProof.Rows L2
section
variable {p : Cmp} {c : CE} {C : Cal} {k : Nat} {X : Cx} {dA : DA} {W : WX} {e : Expr} {x : Ex} {a : Expr} {fa : Sto → Out Opd}
theorem r_tchn {fa fb fc : Sto → Out Opd} {a b d : Expr} {pos : Pos} {op op' : CmpOp} {g g' : D → D → Option RV} (ho : OpOk X (compareOp op) g) (ho' : OpOk X (compareOp op') g') (hg : ∀ d e rv, g d e = some rv → ∃ b, rv = .sh (.bool b)) (hg' : ∀ d e rv, g' d e = some rv → ∃ b, rv = .sh (.bool b))
    (ha : PE X a (TOof X dA W fa)) (hb : PE X b (TOof X dA W fb)) (hc : PE X d (TOof X dA W fc)) (hm : lastMarks [op, op'] [b, d] = false) :
    PT X (.Compare a [op, op'] [b, d] pos) (TTof X dA W fun s => (((fa s).bind fun x s1 => (fb s1).bind fun y s2 => (lift2 g x y s2).bind fun r s3 => match r.dat with
        | .bool true => (fc s3).bind fun z s4 => lift2 g' y z s4
        | .bool false => .ok (.sh (.bool false)) s3
        | _ => .stuck).bind fun rv s' => Out.ok (Opd.dat rv.dat) s').bind fun x s1 => outO ((x.get s1).bind truD) s1) := by
  obtain ⟨r, h1, h2⟩ := ho
  obtain ⟨r', h1', h2'⟩ := ho'
  refine (pt_chain h1 h1' ha hb hc hm).mono fun σ H Q ⟨F, s, R, h⟩ => ⟨F, s, R, ?_⟩
  -- the answer is a bool
  have isb : ∀ rv s', ((fa s).bind fun x s1 => (fb s1).bind fun y s2 => (lift2 g x y s2).bind fun r s3 => match r.dat with
        | .bool true => (fc s3).bind fun z s4 => lift2 g' y z s4
        | .bool false => Out.ok (RV.sh (.bool false)) s3
        | _ => .stuck) = .ok rv s' → ∃ b, rv = .sh (.bool b) := fun rv s' eo => by
    cases e1 : fa s with
    | stuck => rw [e1] at eo; cases eo
    | exc c s' => rw [e1] at eo; cases eo
    | ok x s1 =>
      rw [e1] at eo
      cases e2 : fb s1 with
      | stuck => simp only [Out.bind, e2] at eo; cases eo
      | exc c s' => simp only [Out.bind, e2] at eo; cases eo
      | ok y s2 =>
        simp only [Out.bind, e2] at eo
        have eo' : ((lift2 g x y s2).bind fun r s3 => match r.dat with
          | .bool true => (fc s3).bind fun z s4 => lift2 g' y z s4
          | .bool false => Out.ok (RV.sh (.bool false)) s3
          | _ => .stuck) = .ok rv s' := eo
        cases e3 : lift2 g x y s2 with
        | stuck => rw [e3] at eo'; cases eo'
        | exc c s' => rw [e3] at eo'; cases eo'
        | ok r0 s3 =>
          rw [e3] at eo'
          have eo2 : (match r0.dat with
            | .bool true => (fc s3).bind fun z s4 => lift2 g' y z s4
            | .bool false => Out.ok (RV.sh (.bool false)) s3
            | _ => .stuck) = .ok rv s' := eo'
          split at eo2
          · cases e4 : fc s3 with
            | stuck => rw [e4] at eo2; cases eo2
            | exc c s' => rw [e4] at eo2; cases eo2
            | ok z s4 =>
              rw [e4] at eo2
              obtain ⟨d, e, rv', q1, q2, q3, q4⟩ := outO_bind2 (P := fun o => o = Out.ok rv s') eo2 (fun z => nomatch z)
              cases q4
              exact hg' d e _ q3
          · cases eo2
            exact ⟨false, rfl⟩
          · cases eo2
  have h0 : PostE X dA W σ s F H (fun _ => fun x H' => ∃ k, x = V.bl k ∧ Q k H') ((fa s).bind fun x s1 => (fb s1).bind fun y s2 => (lift2 g x y s2).bind fun r s3 => match r.dat with
        | .bool true => (fc s3).bind fun z s4 => lift2 g' y z s4
        | .bool false => Out.ok (RV.sh (.bool false)) s3
        | _ => .stuck) := by
    revert h isb
    cases eo : ((fa s).bind fun x s1 => (fb s1).bind fun y s2 => (lift2 g x y s2).bind fun r s3 => match r.dat with
        | .bool true => (fc s3).bind fun z s4 => lift2 g' y z s4
        | .bool false => Out.ok (RV.sh (.bool false)) s3
        | _ => .stuck) with
    | stuck => intro h _; simp only [eo] at h; exact h
    | exc c s' => intro h _; simp only [eo] at h; exact h
    | ok rv s' =>
      intro h isb
      simp only [eo] at h
      obtain ⟨b, rfl⟩ := isb rv s' rfl
      intro v F' H' R' x' r
      cases r
      have h' : PostG X dA W σ s F H (fun (b c : Bool) _ => c = b) Q (.ok b s') := h
      exact ⟨b, rfl, h' b F' H' R' x' rfl⟩
  refine PostG.bind h0 fun x s1 v F1 H1 _ R1 x1 g1 h => ⟨F1, s1, R1, PostG.bind h fun y s2 w F2 H2 _ R2 x2 g2 h => ?_⟩
  have h3 : PostG X dA W σ s2 F2 H2 (fun (rv : RV) (v : V) F' => ∃ b, rv = .sh (.bool b) ∧ v = .bl b) (fun z H3 => ∃ k, z = .bl k ∧ (if k = true then TOof X dA W fc σ H3 (fun w' H4 => r' w w' H4 fun x H' => ∃ k, x = V.bl k ∧ Q k H') else (∃ k, V.bl false = V.bl k ∧ Q k H3))) (lift2 g x y s2) :=
    PostG.bind h fun rv s3 z F3 H3 _ R3 x3 g3 h => by
      obtain ⟨b, rfl, rfl⟩ := g3
      refine ⟨b, rfl, ?_⟩
      cases b with
      | false => exact h (.bl false) F3 H3 R3 Ext.refl (.bl _)
      | true =>
        rw [if_pos rfl]
        exact ⟨F3, s3, R3, PostG.bind h fun z s4 w' F4 H4 _ R4 x4 g4 h => liftO h2' R4 (Same.trans' x3.fs x4.fs) g2 g4 h⟩
  obtain ⟨d, e, rv, e1, e2, e3, h4⟩ := outO_bind2 (P := fun o => PostG X dA W σ s2 F2 H2 (fun (rv : RV) (v : V) F' => ∃ b, rv = .sh (.bool b) ∧ v = .bl b) _ o) h3 (fun z => z)
  obtain ⟨b, rfl⟩ := hg d e rv e3
  refine h2 F2 H2 v w d e _ _ R2.sub (g1.brep R2 x2.fs e1) (g2.brep R2 same_refl e2) e3 fun v' F' H' n r => ?_
  cases r
  exact h4 (.bl b) F' H' (R2.newF n) (Ext.ofNew n) ⟨b, rfl, rfl⟩
/-- mkP's test -/
def MkT (x : Ex) : Prop := ∀ C, evT C x = fun s => (opd x (evE C x s) s).bind fun o s1 => outO ((o.get s1).bind truD) s1
theorem bw1 {a : Expr} {op : BoolOp} {pos : Pos} {t : TT} (h : PT X a t) : PW X (.BoolOp op [a] pos) t := by
  cases op with
  | And => exact pw_and1 h
  | Or => exact pw_or1 h
theorem mkT {x : Ex} (h : isTst x = true) : MkT x := by
  intro C
  cases x <;> first | rfl | cases h
theorem stepT_ok (S : Snd p) (G : Good c C k X) (tk : Takes X W) (h : stepT p c e = some x) : PT X e (TTof X dA W (evT C x)) ∧ ∀ o l pos, e = .BoolOp o l pos → PW X e (TTof X dA W (evT C x)) := by
  unfold stepT at h
  split at h
  · obtain ⟨a', h1, rfl⟩ := Option.map_eq_some_iff.mp h
    exact ⟨r_tnot (S.t G tk h1), fun _ _ _ => nofun⟩
  · simp only [Option.bind_eq_bind, Option.bind_eq_some_iff] at h
    obtain ⟨a', h1, b', h2, h4⟩ := h
    cases h4
    have q := r_tand (S.t (dA := dA) G tk h1) (S.w (dA := dA) G tk h2)
    exact ⟨q.pt, fun _ _ _ _ => q⟩
  · simp only [Option.bind_eq_bind, Option.bind_eq_some_iff] at h
    obtain ⟨a', h1, b', h2, h4⟩ := h
    cases h4
    have q := r_tor (S.t (dA := dA) G tk h1) (S.w (dA := dA) G tk h2)
    exact ⟨q.pt, fun _ _ _ _ => q⟩
  · have q := S.t (dA := dA) G tk h
    exact ⟨(bw1 q).pt, fun _ _ _ _ => bw1 q⟩
  · obtain ⟨h0, h⟩ := gd_some h
    simp only [Bool.and_eq_true, Bool.not_eq_true'] at h0
    simp only [Option.bind_eq_bind, Option.bind_eq_some_iff] at h
    obtain ⟨o', h1, a', h2, b', h3, h4⟩ := h
    cases h4
    exact ⟨r_tcmp (cmp_ok (room65 (G.room h0.1)) h1) (fun _ _ _ => cmpG_bool) (S.o G tk h2) (S.o G tk h3) h0.2, fun _ _ _ => nofun⟩
  · obtain ⟨h0, h⟩ := gd_some h
    simp only [Bool.and_eq_true, Bool.not_eq_true'] at h0
    simp only [Option.bind_eq_bind, Option.bind_eq_some_iff] at h
    obtain ⟨o', h1, o2', h1', a', h2, b', h3, d', h3', h4⟩ := h
    cases h4
    exact ⟨r_tchn (cmp_ok (room65 (G.room h0.1)) h1) (cmp_ok (room65 (G.room h0.1)) h1') (fun _ _ _ => cmpG_bool) (fun _ _ _ => cmpG_bool) (S.o G tk h2) (S.o G tk h3) (S.o G tk h3') h0.2, fun _ _ _ => nofun⟩
  · obtain ⟨h0, h⟩ := gd_some h
    obtain ⟨x', h1, h2⟩ := Option.bind_eq_some_iff.mp h
    obtain ⟨h3, h4⟩ := gd_some h2
    cases h4
    refine ⟨?_, fun o l pos q => by subst q; cases h0⟩
    rw [mkT h3]
    exact r_tst (S.o G tk h1) (test_plain h0)
theorem stepEs_ok (S : Snd p) (G : Good c C k X) (tk : Takes X W) {l : List Expr} {xs : Exs} (h : stepEs p c l = some xs) :
    PA X l (TAof X dA W (evEs C xs)) ∧ PA X l (TCof X dA W (evA C xs)) ∧ PA X l (TRof X dA W (evR C xs)) ∧ l.all notStar = true := by
  unfold stepEs at h
  split at h
  · cases h
    exact ⟨r_anil, r_cnil, r_rnil, rfl⟩
  · obtain ⟨h0, h⟩ := gd_some h
    simp only [Option.bind_eq_bind, Option.bind_eq_some_iff] at h
    obtain ⟨e', h1, es', h2, h3⟩ := h
    cases h3
    obtain ⟨q1, q2, q3, q4⟩ := S.es (dA := dA) G tk h2
    have he := S.e (dA := dA) G tk h1
    refine ⟨r_acons he q1 (star_eq h0), ?_, r_rcons he q3 (star_eq h0), by rw [List.all_cons, h0, q4]; rfl⟩
    cases e' with
    | v i => exact r_cname (S.nm G h1) q2 (star_eq h0)
    | _ => exact r_ccons he q2 (star_eq h0)
theorem stepKs_ok (S : Snd p) (G : Good c C k X) (tk : Takes X W) {l : List Keyword} {xs : Exs} {ns : List Str} (h : stepKs p c l = some (xs, ns)) :
    PK X l (TCof X dA W (evA C xs)) ∧ ∀ pos, (backToKw pos (keywordEach l X.env)).all (·.1.isSome) = true ∧ (backToKw pos (keywordEach l X.env)).filterMap (·.1) = ns ∧ (backToKw pos (keywordEach l X.env)).any (·.1.isNone) = false := by
  unfold stepKs at h
  split at h
  · cases h
    exact ⟨r_knil, fun pos => ⟨rfl, rfl, rfl⟩⟩
  · simp only [Option.bind_eq_bind, Option.bind_eq_some_iff] at h
    obtain ⟨e', h1, ⟨es', ns'⟩, h2, h3⟩ := h
    cases h3
    obtain ⟨q1, q2⟩ := S.ks (dA := dA) G tk h2
    have he := S.e (dA := dA) G tk h1
    refine ⟨?_, fun pos => ?_⟩
    · cases e' with
      | v i => exact r_kname (S.nm G h1) q1
      | _ => exact r_kcons he q1
    · obtain ⟨k1, k2, k3⟩ := q2 pos
      refine ⟨?_, ?_, ?_⟩
      · unfold backToKw at k1 ⊢
        rw [keywordEach, List.map_cons, List.all_cons, k1]
        rfl
      · unfold backToKw at k2 ⊢
        rw [keywordEach, List.map_cons, List.filterMap_cons]
        exact congrArg (List.cons _) k2
      · unfold backToKw at k3 ⊢
        rw [keywordEach, List.map_cons, List.any_cons, k3]
        rfl
  · cases h
theorem stepX_ok (S : Snd p) (G : Good c C k X) (tk : Takes X W) {o : Option Expr} {y : Exo} (h : stepX p c o = some y) : PO X o (TXof X dA W (evX C y)) := by
  unfold stepX at h
  split at h
  · cases h
    exact r_pno
  · obtain ⟨a', h1, rfl⟩ := Option.map_eq_some_iff.mp h
    exact r_pso (S.e G tk h1)
theorem _root_.L2.PTs.mono {X : Cx} {e : List Expr} {t t' : TT} (h : PTs X e t) (i : ∀ σ H Q, t' σ H Q → t σ H Q) : PTs X e t' := ⟨fun pins s σ H Q I w => h.run pins s σ H Q I (i σ H Q w)⟩
theorem stepC_ok (S : Snd p) (G : Good c C k X) (tk : Takes X W) {o : List Expr} {y : Exo} (h : stepC p c o = some y) : PTs X o (TTof X dA W (evC C y)) := by
  unfold stepC at h
  split at h
  · cases h
    exact pts_nil.mono fun σ H Q ⟨F, s, R, h⟩ => h true F H R Ext.refl rfl
  · obtain ⟨a', h1, rfl⟩ := Option.map_eq_some_iff.mp h
    exact pts_one (S.t G tk h1)
  · cases h
theorem tupE {tg : Expr} (h : isTupE tg = true) : ∃ l n pos, tg = .Tuple l n pos := by
  cases tg <;> first | exact ⟨_, _, _, rfl⟩ | cases h
theorem stepI_ok (S : Snd p) (G : Good c C k X) (tk : Takes X W) {tg e : Expr} {y : Itr} (h : stepI p c tg e = some y) : PI X tg e (TIof X dA W (evI C y)) := by
  unfold stepI at h
  split at h
  · split at h
    · rename_i q
      obtain ⟨h0, h⟩ := gd_some h
      simp only [Bool.and_eq_true] at h0
      obtain ⟨a', h1, rfl⟩ := Option.map_eq_some_iff.mp h
      have q2 := beq_iff_eq.mp q
      subst q2
      obtain ⟨g1, g2, g3, g4⟩ := G.bl h0.1
      exact r_irg1 g1 g2 (S.e G tk h1) (star_eq h0.2)
    split at h
    · rename_i q
      obtain ⟨h0, h⟩ := gd_some h
      simp only [Bool.and_eq_true] at h0
      obtain ⟨a', h1, rfl⟩ := Option.map_eq_some_iff.mp h
      have q2 := beq_iff_eq.mp q
      subst q2
      obtain ⟨g1, g2, g3, g4⟩ := G.bl h0.1
      exact r_irev g1 g2 (S.e G tk h1) (star_eq h0.2)
    split at h
    · rename_i q
      obtain ⟨h0, h⟩ := gd_some h
      simp only [Bool.and_eq_true] at h0
      obtain ⟨a', h1, rfl⟩ := Option.map_eq_some_iff.mp h
      have q2 := beq_iff_eq.mp q
      subst q2
      obtain ⟨g1, g2, g3, g4⟩ := G.bl h0.1.1
      obtain ⟨l, n, tp, rfl⟩ := tupE h0.2
      exact r_ienum g1 g2 (S.e G tk h1) (star_eq h0.1.2)
    · obtain ⟨a', h1, rfl⟩ := Option.map_eq_some_iff.mp h
      exact r_iseq (S.e G tk h1)
  · split at h
    · rename_i q
      obtain ⟨h0, h⟩ := gd_some h
      simp only [Bool.and_eq_true] at h0
      simp only [Option.bind_eq_bind, Option.bind_eq_some_iff] at h
      obtain ⟨a', h1, b', h2, h3⟩ := h
      cases h3
      have q2 := beq_iff_eq.mp q
      subst q2
      obtain ⟨g1, g2, g3, g4⟩ := G.bl h0.1.1
      exact r_irg2 g1 g2 (S.e G tk h1) (S.e G tk h2) (star_eq h0.1.2) (star_eq h0.2)
    split at h
    · rename_i q
      obtain ⟨h0, h⟩ := gd_some h
      simp only [Bool.and_eq_true] at h0
      simp only [Option.bind_eq_bind, Option.bind_eq_some_iff] at h
      obtain ⟨a', h1, b', h2, h3⟩ := h
      cases h3
      have q2 := beq_iff_eq.mp q
      subst q2
      obtain ⟨g1, g2, g3, g4⟩ := G.bl h0.1.1.1
      obtain ⟨l, n, tp, rfl⟩ := tupE h0.2
      exact r_izip g1 g2 (S.e G tk h1) (S.e G tk h2) (star_eq h0.1.1.2) (star_eq h0.1.2) (star_any (by simpa using h0.1.2))
    · obtain ⟨a', h1, rfl⟩ := Option.map_eq_some_iff.mp h
      exact r_iseq (S.e G tk h1)
  · obtain ⟨a', h1, rfl⟩ := Option.map_eq_some_iff.mp h
    exact r_iseq (S.e G tk h1)
end
theorem cmp_snd : ∀ n, Snd (cmp n)
  | 0 => by constructor <;> (intros; rename_i h; first | cases h | (rename_i h2; cases h2))
  | n + 1 => by
    have S := cmp_snd n
    exact {
      e := fun G tk h => (stepE_ok S G tk h).1
      nm := fun G h => (stepE_ok (W := WF) (dA := none) S G takesF h).2 _ rfl
      t := fun G tk h => (stepT_ok S G tk h).1
      w := fun G tk h => (stepT_ok S G tk h).2 _ _ _ rfl
      es := fun G tk h => stepEs_ok S G tk h
      es0 := fun h => by cases h; rfl
      ks := fun G tk h => stepKs_ok S G tk h
      x := fun G tk h => stepX_ok S G tk h
      c := fun G tk h => stepC_ok S G tk h
      i := fun G tk h => stepI_ok S G tk h }
end WV
namespace WV
open PySem PySem.Spec PyProof.Rows L2
/-! ## statements -/
theorem sw_none {v : Expr} {t : Option Expr} {l : Nat} {env : Env} (h : isComp v = false) : swapsWith v t l env = pure false := by
  cases v <;> first | rfl | cases h
theorem sw_sole {v t : Expr} {l : Nat} {env : Env} (h : isComp v = false) : swapsWithSole [t] v l env = pure false := sw_none h
theorem ss_none {v t : Expr} {env : Env} (h : isTupE v = false ∨ (isTupE t = false ∧ ∀ l p, t ≠ .List l p)) : swappedStores [t] v env = pure none := by
  rcases h with h | ⟨h, h2⟩
  · cases t <;> cases v <;> first | rfl | cases h
  · cases t <;> first | rfl | exact absurd rfl (h2 _ _) | (cases h; done)
theorem swS_ok {c : CE} {ts vs : List Expr} {k k2 : Nat} {p p2 : Pos} {env : Env} {q : Option (List Str)} (hs : env.scope = c.sc) (hk : c.sc.kind = .function) (h : swS c ts vs = some q) : swappedStores [.Tuple ts k p] (.Tuple vs k2 p2) env = pure q := by
  have hb : env.blockKind = .function := by unfold Env.blockKind; rw [hs, hk]; rfl
  have hkd : ∀ x, env.kindOf x = c.sc.names.lookup x := fun x => by rw [← hs]; rfl
  unfold swS at h
  unfold swappedStores
  simp only [hb, hkd]
  split at h
  · rename_i c1
    cases h
    have : (!(ts.length == 2 || ts.length == 3) || vs.length != ts.length || ScopeKind.function != ScopeKind.function) = true := by rw [c1]; rfl
    rw [if_pos this]
  · rename_i c1
    have : ¬ (!(ts.length == 2 || ts.length == 3) || vs.length != ts.length || ScopeKind.function != ScopeKind.function) = true := by
      intro z
      have e : (ScopeKind.function != ScopeKind.function) = false := rfl
      rw [e, Bool.or_false] at z
      exact c1 z
    rw [if_neg this]
    split at h
    · rename_i c2
      cases h
      exact if_pos c2
    · rename_i c2
      refine Eq.trans (if_neg c2) ?_
      dsimp only at h ⊢
      split at h
      · rename_i c3
        have := Option.some.inj h
        subst this
        exact if_pos c3
      · rename_i c3
        refine Eq.trans (if_neg c3) ?_
        split at h
        · rename_i c4
          have := Option.some.inj h
          subst this
          exact if_pos c4
        · rename_i c4
          refine Eq.trans (if_neg c4) ?_
          split at h
          · exact nomatch h
          · rename_i c5
            have := Option.some.inj h
            subst this
            exact Eq.trans (if_neg c5) rfl
theorem swS_some {c : CE} {ts vs : List Expr} {ns : List Str} (h : swS c ts vs = some (some ns)) : (ts.length = 2 ∨ ts.length = 3) ∧ vs.length = ts.length ∧ ns.length = ts.length ∧ ns.eraseDups.length = ns.length ∧
    ns = ts.filterMap fun t => match t with
      | .Name id pos => if c.sc.names.lookup id == some .local && pos.line == (ts.head?.map (·.pos.line)).getD 0 then some id else none
      | _ => none := by
  unfold swS at h
  split at h
  · cases h
  · rename_i c1
    split at h
    · cases h
    · dsimp only at h
      split at h
      · exact nomatch h
      · rename_i c3
        split at h
        · exact nomatch h
        · split at h
          · exact nomatch h
          · have e := Option.some.inj (Option.some.inj h)
            rw [e] at c3
            simp only [Bool.or_eq_true, not_or, Bool.not_eq_true, bne_eq_false_iff_eq, Bool.not_eq_true', Bool.or_eq_false_iff, Bool.not_eq_false', beq_iff_eq] at c1 c3
            refine ⟨?_, c1.2, c3.1, c3.2, e.symm⟩
            by_cases z : ts.length = 2
            · exact .inl z
            · exact .inr (by simpa [z] using c1.1)
theorem loc_if {c : CE} {id : Str} {l l' : Nat} {o : Str} (h : (if c.sc.names.lookup id == some NameKind.local && l == l' then some id else none) = some o) : o = id ∧ c.sc.names.lookup id = some .local := by
  split at h
  · rename_i q
    cases h
    simp only [Bool.and_eq_true, beq_iff_eq] at q
    exact ⟨rfl, q.1⟩
  · cases h
theorem dups2 {x y : Str} (h : [x, y].eraseDups.length = 2) : x ≠ y := by
  intro e
  subst e
  simp [List.eraseDups_cons] at h
theorem dups3 {x y z : Str} (h : [x, y, z].eraseDups.length = 3) : x ≠ y ∧ x ≠ z ∧ y ≠ z := by
  by_cases e1 : x = y
  · subst e1
    by_cases e2 : x = z
    · subst e2
      simp [List.eraseDups_cons] at h
    · have e2' : (z == x) = false := by simpa using Ne.symm e2
      simp [List.eraseDups_cons, e2'] at h
  · have e1' : (y == x) = false := by simpa using Ne.symm e1
    by_cases e2 : x = z
    · subst e2
      simp [List.eraseDups_cons, e1'] at h
    · by_cases e3 : y = z
      · subst e3
        simp [List.eraseDups_cons, e1'] at h
      · exact ⟨e1, e2, e3⟩
end WV
namespace WV
open PySem PySem.Spec PyProof.Rows L2
structure GoodS (c : CE) (C : Cal) (k : Nat) (X : Cx) (W : WX) : Prop extends Good c C k X where
  tk : Takes X W
  po : PassesOwn (model X.prog X.w) X.A X.env X.xe
  fr : c.calm = true → X.stack = X.env :: X.outer ∧ X.env.frame = some X.env.locals
structure SndS (p : CmpS) : Prop where
  s : ∀ {c : CE} {C : Cal} {k : Nat} {X : Cx} {dA : DA} {W : WX} {e : Stmt} {x : Sm}, GoodS c C k X W → p.s c e = some x → PS X e (TSof X dA W (evS C x))
  ss : ∀ {c : CE} {C : Cal} {k : Nat} {X : Cx} {dA : DA} {W : WX} {e : List Stmt} {x : Sms}, GoodS c C k X W → p.ss c e = some x → PSs X e (TSof X dA W (evSs C x))
  h : ∀ {c : CE} {C : Cal} {k : Nat} {X : Cx} {dA : DA} {W : WX} {e : List ExceptHandler} {x : Hds}, GoodS c C k X W → p.h c e = some x →
    ∃ l : List Hd, HdsOk X e (l.map fun h => (Value.ref h.C, fun _ _ _ => TSof X dA WF h.f)) ∧ (∀ h ∈ l, h.c ∈ c.T.exs ∧ X.mg h.c = some (.ref h.C)) ∧ ∀ z s, hdl l z s = evH C x z s
section
variable {E : Cmp} {p : CmpS} {c : CE} {C : Cal} {k : Nat} {X : Cx} {dA : DA} {W : WX} {st : Stmt} {x : Sm}
theorem isComp_of {v : Expr} (h : (!(isComp v)) = true) : isComp v = false := by simpa using h
theorem isTup_of {v : Expr} (h : (!(isTupE v)) = true) : isTupE v = false := by simpa using h
theorem n_ne {N : List Str} {i j : Nat} {x y : Str} (h1 : N[i]? = some x) (h2 : N[j]? = some y) (h : x ≠ y) : i ≠ j := fun e => by
  subst e
  rw [h1] at h2
  exact h (Option.some.inj h2)
theorem par_ok (S : Snd E) (G : GoodS c C k X W) {ts vs : List Expr} {kt k2 : Nat} {pt pt2 pos : Pos} (hc : c.calm = true) {is : List Nat} {es : Exs} {q : Option (List Str)} (h1 : cNames c ts = some is) (h2 : E.es c vs = some es) (h3 : swS c ts vs = some q)
    (hz : q = none → is.length ≤ sizeLine) : PS X (.Assign [.Tuple ts kt pt] (.Tuple vs k2 pt2) pos) (TSof X dA W (evS C (.par is es))) := by
  have hw := swS_ok (k := kt) (k2 := k2) (p := pt) (p2 := pt2) G.sc G.knd h3
  obtain ⟨q1, q2, q3, q4⟩ := ids_ok G.toGood _ _ h1
  have ha := (S.es (dA := dA) G.toGood G.tk h2).2.2.1
  have hN : X.N.Nodup := by rw [G.N]; exact G.nd
  cases q with
  | none => exact r_parT (G.calm hc) (hz rfl) ha q1 q2 q3 rfl hw rfl
  | some ns =>
    obtain ⟨w1, w2, w3, w4, w5⟩ := swS_some h3
    rcases w1 with w1 | w1
    · match ts, vs, w1, w2 with
      | [t1, t2], [v1, v2], _, _ =>
        cases t1 with
        | Name y1 p1 =>
          cases t2 with
          | Name y2 p2 =>
            simp only [cNames, Option.bind_eq_bind, Option.bind_eq_some_iff] at h1
            obtain ⟨i, e1, is', ⟨j, e2, is'', e3, e4⟩, e5⟩ := h1
            cases e3
            cases e4
            cases e5
            obtain ⟨g1, g2, g3, g4⟩ := G.wr e1
            obtain ⟨g1', g2', g3', g4'⟩ := G.wr e2
            simp only [List.filterMap_cons, List.filterMap_nil] at w5
            cases o1 : (if (List.lookup y1 c.sc.names == some NameKind.local && p1.line == (Option.map (fun x => x.pos.line) ([Expr.Name y1 p1, Expr.Name y2 p2] : List Expr).head?).getD 0) = true then some y1 else none) with
            | none =>
              rw [o1] at w5
              subst w5
              dsimp only at w3
              split at w3 <;> simp at w3
            | some z1 =>
              cases o2 : (if (List.lookup y2 c.sc.names == some NameKind.local && p2.line == (Option.map (fun x => x.pos.line) ([Expr.Name y1 p1, Expr.Name y2 p2] : List Expr).head?).getD 0) = true then some y2 else none) with
              | none =>
                rw [o1, o2] at w5
                subst w5
                simp at w3
              | some z2 =>
                rw [o1, o2] at w5
                subst w5
                obtain ⟨rfl, l1⟩ := loc_if o1
                obtain ⟨rfl, l2⟩ := loc_if o2
                exact r_par2 (G.calm hc) hN g2 g2' (n_ne g2 g2' (dups2 w4)) (by rw [G.sc]; exact l1) (by rw [G.sc]; exact l2) ha hw rfl
          | _ => simp [cNames] at h1
        | _ => simp [cNames] at h1
    · match ts, vs, w1, w2 with
      | [t1, t2, t3], [v1, v2, v3], _, _ =>
        cases t1 with
        | Name y1 p1 =>
          cases t2 with
          | Name y2 p2 =>
            cases t3 with
            | Name y3 p3 =>
              simp only [cNames, Option.bind_eq_bind, Option.bind_eq_some_iff] at h1
              obtain ⟨i, e1, is', ⟨j, e2, is'', ⟨l, e6, is3, e7, e8⟩, e4⟩, e5⟩ := h1
              cases e7
              cases e8
              cases e4
              cases e5
              obtain ⟨g1, g2, g3, g4⟩ := G.wr e1
              obtain ⟨g1', g2', g3', g4'⟩ := G.wr e2
              obtain ⟨g1'', g2'', g3'', g4''⟩ := G.wr e6
              simp only [List.filterMap_cons, List.filterMap_nil] at w5
              cases o1 : (if (List.lookup y1 c.sc.names == some NameKind.local && p1.line == (Option.map (fun x => x.pos.line) ([Expr.Name y1 p1, Expr.Name y2 p2, Expr.Name y3 p3] : List Expr).head?).getD 0) = true then some y1 else none) with
              | none =>
                rw [o1] at w5
                subst w5
                dsimp only at w3
                split at w3 <;> split at w3 <;> simp at w3
              | some z1 =>
                cases o2 : (if (List.lookup y2 c.sc.names == some NameKind.local && p2.line == (Option.map (fun x => x.pos.line) ([Expr.Name y1 p1, Expr.Name y2 p2, Expr.Name y3 p3] : List Expr).head?).getD 0) = true then some y2 else none) with
                | none =>
                  rw [o1, o2] at w5
                  subst w5
                  dsimp only at w3
                  split at w3 <;> simp at w3
                | some z2 =>
                  cases o3 : (if (List.lookup y3 c.sc.names == some NameKind.local && p3.line == (Option.map (fun x => x.pos.line) ([Expr.Name y1 p1, Expr.Name y2 p2, Expr.Name y3 p3] : List Expr).head?).getD 0) = true then some y3 else none) with
                  | none =>
                    rw [o1, o2, o3] at w5
                    subst w5
                    simp at w3
                  | some z3 =>
                    rw [o1, o2, o3] at w5
                    subst w5
                    obtain ⟨rfl, l1⟩ := loc_if o1
                    obtain ⟨rfl, l2⟩ := loc_if o2
                    obtain ⟨rfl, l3⟩ := loc_if o3
                    obtain ⟨d1, d2, d3⟩ := dups3 w4
                    exact r_par3 (G.calm hc) hN g2 g2' g2'' (n_ne g2 g2' d1) (n_ne g2 g2'' d2) (n_ne g2' g2'' d3) (by rw [G.sc]; exact l1) (by rw [G.sc]; exact l2) (by rw [G.sc]; exact l3) ha hw rfl
            | _ => simp [cNames] at h1
          | _ => simp [cNames] at h1
        | _ => simp [cNames] at h1
theorem sub_asg {y : Str} {p tp : Pos} {a : Expr} {env : Env} (h : notSlice a = true) : ∀ v, assign (.Subscript (.Name y p) a tp) env v = (do
      let ov ← holding [v] (eval (.Name y p) env)
      let iv ← holding [v, ov] (eval a env)
      standAt tp
      holding [v, ov, iv] (setItem ov iv v)
      release [v, ov, iv] []) := by
  intro v
  cases a <;> first | rfl | cases h
theorem ret_ok {e : Expr} {x : Ex} {pos : Pos} (h : PE X e (TEof X dA W (evE C x))) (hn : ∀ i, x = .v i → PE X e (tVar i)) : PS X (.Return (some e) pos) (TSof X dA W (evS C (.ret x))) := by
  cases x with
  | v i => exact r_retV (hn i rfl)
  | _ => exact r_ret h
theorem stepS_ok (S : Snd E) (P : SndS p) (G : GoodS c C k X W) (h : stepS E p c st = some x) : PS X st (TSof X dA W (evS C x)) := by
  have hN : X.N.Nodup := by rw [G.N]; exact G.nd
  unfold stepS at h
  split at h
  · -- x = e
    simp only [Option.bind_eq_bind, Option.bind_eq_some_iff] at h
    obtain ⟨i, h1, h⟩ := h
    obtain ⟨g1, g2, g3, g4⟩ := G.wr h1
    split at h
    · rename_i j hj
      cases h
      obtain ⟨y, py, j', p2, p3, rfl, h2⟩ := dc_ok G.toGood hj
      exact r_dcel hN g2 g3 g4 (G.rd h2 _)
    split at h
    · split at h
      · rename_i sw
        obtain ⟨q, h2, rfl⟩ := Option.map_eq_some_iff.mp h
        obtain ⟨w1, w2, L⟩ := lc_ok (dA := dA) S G.toGood h2
        unfold swB at sw
        simp only [Bool.and_eq_true, Bool.not_eq_true'] at sw
        have hl := beq_iff_eq.mp sw.1.1
        rw [← G.sc] at hl
        rw [w2]
        exact r_asgLc w1 hN g2 hl (sw_true (by rw [G.sc]; exact G.knd) hl sw.1.2 sw.2) L.ht (L.hi W G.tk) L.ok L.hg L.htt L.he L.hs
      · rename_i sw
        obtain ⟨q, h2, rfl⟩ := Option.map_eq_some_iff.mp h
        refine r_asg hN g2 g3 (S.e G.toGood G.tk h2) ?_ g4
        have hb : X.env.blockKind = .function := by unfold Env.blockKind; rw [G.sc, G.knd]; rfl
        have hkd : ∀ x, X.env.kindOf x = c.sc.names.lookup x := fun x => by rw [← G.sc]; rfl
        unfold swB at sw
        unfold swapsWith
        simp only [hb, hkd]
        exact congrArg pure ((Bool.not_eq_true _).mp sw)
    · obtain ⟨h0, h⟩ := gd_some h
      obtain ⟨q, h2, rfl⟩ := Option.map_eq_some_iff.mp h
      exact r_asg hN g2 g3 (S.e G.toGood G.tk h2) (sw_none (isComp_of h0)) g4
  · -- several
    obtain ⟨hc, h⟩ := gd_some h
    simp only [Option.bind_eq_bind, Option.bind_eq_some_iff] at h
    obtain ⟨is, h1, es, h2, q, h3, h⟩ := h
    split at h
    · obtain ⟨h0, h⟩ := gd_some h
      cases h
      exact par_ok S G hc h1 h2 h3 fun _ => by simpa using h0
    · obtain ⟨h0, h⟩ := gd_some h
      cases h
      exact par_ok S G hc h1 h2 h3 fun z => nomatch z
  · obtain ⟨h0, h⟩ := gd_some h
    simp only [Bool.and_eq_true] at h0
    simp only [Option.bind_eq_bind, Option.bind_eq_some_iff] at h
    obtain ⟨is, h1, e', h2, h3⟩ := h
    cases h3
    obtain ⟨q1, q2, q3, _⟩ := ids_ok G.toGood _ _ h1
    exact r_unp (S.e G.toGood G.tk h2) (r_gtup (G.calm h0.1.1) q1 q2 q3) (sw_sole (isComp_of h0.1.2)) (ss_none (.inl (isTup_of h0.2))) rfl
  · obtain ⟨h0, h'⟩ := gd_some h
    clear h
    simp only [Bool.and_eq_true] at h0
    split at h'
    · rename_i q hq
      obtain ⟨e', h2, rfl⟩ := Option.map_eq_some_iff.mp h'
      obtain ⟨y, py, j, p2, e1, rfl, h1⟩ := dg_ok G.toGood hq
      cases e1
      exact r_dset (G.rd h1 _) (S.e G.toGood G.tk h2) (sw_sole (isComp_of h0.1.2)) (ss_none (.inr ⟨rfl, fun _ _ => nofun⟩))
    simp only [Option.bind_eq_bind, Option.bind_eq_some_iff] at h'
    obtain ⟨i, h1, a', h2, e', h3, h4⟩ := h'
    cases h4
    exact r_sub (room65 (G.toGood.room h0.1.1)) (G.rd h1 _) (S.o G.toGood G.tk h2) (S.e G.toGood G.tk h3) (sub_asg h0.2) (sw_sole (isComp_of h0.1.2)) (ss_none (.inr ⟨rfl, fun _ _ => nofun⟩)) rfl
  · simp only [Option.bind_eq_bind, Option.bind_eq_some_iff] at h
    obtain ⟨i, h1, o', h2, e', h3, h4⟩ := h
    cases h4
    obtain ⟨g1, g2, g3, g4⟩ := G.wr h1
    split at h2
    · cases h2
      exact r_aug hN g2 g3 aug_add (S.o G.toGood G.tk h3) g4
    · cases h2
      exact r_aug hN g2 g3 aug_sub (S.o G.toGood G.tk h3) g4
    · cases h2
      exact r_aug hN g2 g3 aug_mul (S.o G.toGood G.tk h3) g4
    · cases h2
  · cases h
    exact r_doc
  · obtain ⟨h0, h⟩ := gd_some h
    obtain ⟨e', h2, rfl⟩ := Option.map_eq_some_iff.mp h
    exact r_exp (S.e G.toGood G.tk h2) (sw_none (isComp_of h0))
  · cases h
    exact r_retN
  · obtain ⟨e', h2, rfl⟩ := Option.map_eq_some_iff.mp h
    exact ret_ok (S.e G.toGood G.tk h2) fun i q => S.nm G.toGood (by rw [h2, q])
  · simp only [Option.bind_eq_bind, Option.bind_eq_some_iff] at h
    obtain ⟨t', h1, a', h2, b', h3, h4⟩ := h
    cases h4
    exact r_if (S.t G.toGood G.tk h1) (P.ss G h2) (P.ss G h3)
  · obtain ⟨h0, h⟩ := gd_some h
    simp only [Bool.and_eq_true] at h0
    simp only [Option.bind_eq_bind, Option.bind_eq_some_iff] at h
    obtain ⟨it, h1, t, h2, b', h3, h4⟩ := h
    cases h4
    exact r_for G.po (G.calm h0.1) (S.i G.toGood G.tk h1) (tg_ok G.toGood h2) (P.ss G h3) (set_eq h0.2)
  · simp only [Option.bind_eq_bind, Option.bind_eq_some_iff] at h
    obtain ⟨t', h1, b', h2, h4⟩ := h
    cases h4
    exact r_whl G.po (S.t G.toGood G.tk h1) (P.ss G h2) turns
  · obtain ⟨h0, h⟩ := gd_some h
    cases h
    simp only [Bool.and_eq_true] at h0
    obtain ⟨g1, g2⟩ := G.gl h0.1.2
    obtain ⟨A, e1, ⟨bmB, B, newId, initId, e2, e3⟩, e4, e5, e6⟩ := G.tab.ex _ (List.contains_iff_mem.mp h0.2)
    exact r_raise (G.calm h0.1.1) G.tk e2 e3 e1 e4 (raises_own e5 e6) g1 g2
  · obtain ⟨h0, h⟩ := gd_some h
    simp only [Option.bind_eq_bind, Option.bind_eq_some_iff] at h
    obtain ⟨b', h1, hs', h2, h4⟩ := h
    cases h4
    obtain ⟨l, l1, l2, l3⟩ := P.h (dA := dA) G h2
    obtain ⟨f1, f2⟩ := G.fr h0
    have q := r_try (dA := dA) (W := W) (pos := by assumption) (ex := C.ex) (fs := evSs C b') f1 f2 G.tk (fun W pn xe tk po => P.ss (dA := dA) ⟨⟨G.calm, G.N, G.nd, G.sc, G.knd, G.fn, G.room, G.tab⟩, tk, po, G.fr⟩ h1) l1
      (fun z hz D hD h hl => G.tab.xm z (by rw [← G.tab.hex]; exact hz) h.c (l2 h hl).1 D h.C hD (l2 h hl).2)
    refine q.mono fun D σ H ⟨F0, H0, F, s, J, hp⟩ => ⟨F0, H0, F, s, J, ?_⟩
    have he : (match evSs C b' s with
      | .exc c s1 => if c ∈ C.ex then hdl l c s1 else .stuck
      | r => r) = evS C (.tryy b' hs') s := by
      show _ = (match evSs C b' s with
        | .exc c s1 => if c ∈ C.ex then evH C hs' c s1 else .stuck
        | r => r)
      cases evSs C b' s with
      | ok _ _ => rfl
      | stuck => rfl
      | exc z s1 => simp only [l3]
    exact Eq.mpr (congrArg (PostS X dA W F0 H0 D) he) hp
  · cases h
    exact r_pass
  · cases h
    exact r_brk
  · cases h
    exact r_cnt
  · cases h
theorem stepSs_ok (P : SndS p) (G : GoodS c C k X W) {l : List Stmt} {x : Sms} (h : stepSs p c l = some x) : PSs X l (TSof X dA W (evSs C x)) := by
  unfold stepSs at h
  split at h
  · cases h
    exact r_snil
  · simp only [Option.bind_eq_bind, Option.bind_eq_some_iff] at h
    obtain ⟨s', h1, r', h2, h4⟩ := h
    cases h4
    exact r_scons (P.s G h1) (P.ss G h2)
theorem stepH_ok (P : SndS p) (G : GoodS c C k X W) {l : List ExceptHandler} {x : Hds} (h : stepH p c l = some x) :
    ∃ m : List Hd, HdsOk X l (m.map fun h => (Value.ref h.C, fun _ _ _ => TSof X dA WF h.f)) ∧ (∀ h ∈ m, h.c ∈ c.T.exs ∧ X.mg h.c = some (.ref h.C)) ∧ ∀ z s, hdl m z s = evH C x z s := by
  unfold stepH at h
  split at h
  · cases h
    exact ⟨[], .nil, fun _ z => (nomatch z), fun _ _ => rfl⟩
  · rename_i y np b₀ bs pos r
    obtain ⟨h0, h⟩ := gd_some h
    simp only [Bool.and_eq_true] at h0
    simp only [Option.bind_eq_bind, Option.bind_eq_some_iff] at h
    obtain ⟨b', h1, r', h2, h4⟩ := h
    cases h4
    obtain ⟨m, m1, m2, m3⟩ := P.h (dA := dA) G h2
    obtain ⟨g1, g2⟩ := G.gl h0.1
    have hx := List.contains_iff_mem.mp h0.2
    obtain ⟨A, e1, _⟩ := G.tab.ex _ hx
    refine ⟨⟨y, A, evSs C b'⟩ :: m, .cons ⟨g1, g2, .inl e1⟩ (fun a oe cls d pn _ _ => ?_) m1, fun h hm => ?_, fun z s => ?_⟩
    · exact P.ss (c := { c with calm := false }) (C := C) (k := k) (W := WF) (X := X.suite a ((a, oe) :: pn)) (dA := dA) ⟨⟨nofun, G.N, G.nd, G.sc, G.knd, G.fn, nofun, G.tab⟩, takesF, PassesOwn.never, nofun⟩ h1
    · rcases List.mem_cons.mp hm with rfl | hm
      · exact ⟨hx, e1⟩
      · exact m2 h hm
    · show (if excHd z y then noExc (evSs C b' s) else hdl m z s) = _
      rw [m3]
      rfl
  · cases h
end
theorem cmpS_snd {E : Cmp} (S : Snd E) : ∀ n, SndS (cmpS E n)
  | 0 => ⟨fun _ h => (nomatch h), fun _ h => (nomatch h), fun _ h => (nomatch h)⟩
  | n + 1 =>
    have P := cmpS_snd S n
    ⟨fun G h => stepS_ok S P G h, fun G h => stepSs_ok P G h, fun G h => stepH_ok P G h⟩
end WV
namespace WV
open PySem PySem.Spec PyProof.Rows L2
/-! ## all defs of a table -/
structure DC where
  f : Str
  ps : List Str
  N : List Str
  params : Arguments
  body : List Stmt
  scope : Scope
  dn : Str
  cn : Str
  sms : Sms
def DC.def (d : DC) : Def := ⟨d.ps.length, d.N.length, d.sms⟩
def tabOf (ds : List DC) (tk : Dl → Int → Option (Int × Dl)) (ex : List Str) : Tab := ⟨fun f => (ds.find? fun d => f == d.f).map DC.def, tk, ex⟩
structure PF (P : Program) (w : World) (K : PySem.W.Frag) (mg : Str → Option Value) (base : Heap) (T : TabC) (ds : List DC) (tk : Dl → Int → Option (Int × Dl)) (m : Nat) : Prop where
  defs : ∀ d ∈ ds, ∃ fa fd, mg d.f = some (.ref fa) ∧ FunD K d.f d.f d.params d.body d.scope [] [] fa fd
  bnd : ∀ d ∈ ds, ∀ fa fd, FunD K d.f d.f d.params d.body d.scope [] [] fa fd → Binds K fd d.ps []
  chk : ∀ d ∈ ds, (cmpS (cmp m) m).ss ⟨T, d.N, d.scope, d.scope, true, d.dn, d.cn⟩ d.body = some d.sms
  sco : ∀ d ∈ ds, FnScope d.N d.ps d.scope
  fns : T.fns = ds.map fun d => (d.f, ⟨d.ps.length⟩)
  kws : ∀ q ∈ T.kws, ∃ d, ds.find? (fun d => q.1 == d.f) = some d ∧ q.2.1 + q.2.2.1.length = q.2.2.2.length ∧ ∀ fa fd, FunD K d.f d.f d.params d.body d.scope [] [] fa fd → KBn K fd d.ps q.2.1 q.2.2.1 (pick q.2.2.2) (pick q.2.2.2)
  cst : ∀ x d, T.cst.lookup x = some d → ∃ u v, mg x = some u ∧ RelV v u ∧ ∀ F, Rep ⟨K, w, P⟩ F v d
  blt : ∀ x ∈ T.blt, mg x = none
  ex : ∀ c ∈ T.exs, ∃ D, mg c = some (.ref D) ∧ (∃ bmB B newId initId, ExcBaseFacts B newId initId bmB ∧ PySem.W.excIn K D bmB newId = true) ∧ PySem.W.keepIn K (.ref D) = true ∧ PySem.W.subIn K (.ref D) (.type "BaseException") = some true ∧ PySem.W.typeIn K (.ref D) = some (.type "type")
  xm : ∀ c ∈ T.exs, ∀ c' ∈ T.exs, ∀ D D', mg c = some (.ref D) → mg c' = some (.ref D') → PySem.W.exmOne K (.ref D) (.ref D') = some (excHd c c')
section
variable {P : Program} {w : World} {K : PySem.W.Frag} {mg : Str → Option Value} {base : Heap} {T : TabC} {ds : List DC} {tk : Dl → Int → Option (Int × Dl)}
theorem rel_start {dA : DA} {F H : Hp} {vs : List V} {cs : List Cell} {dl : Option Dl} {N : List Str} {np : Nat} (sf : Same F H) (hl : vs.length = np) (ra : ARepA ⟨K, w, P⟩ dA F vs cs) (hd : DealOk dA F H dl) (hN : np ≤ N.length) :
    JJ ⟨K, w, P⟩ dA F H F H (L2.start N vs) ⟨cs.map some ++ List.replicate (N.length - np) none, dl⟩ := by
  have lc : cs.length = np := by rw [← Paired.length ra]; exact hl
  have get : ∀ (i : Nat) (c : Cell), (cs.map some ++ List.replicate (N.length - np) none)[i]? = some (some c) → cs[i]? = some c := fun i c h => by
    by_cases hi : i < cs.length
    · rw [List.getElem?_append_left (by simpa using hi), List.getElem?_map] at h
      cases e : cs[i]? with
      | none => rw [e] at h; cases h
      | some a => rw [e] at h; cases h; rfl
    · rw [List.getElem?_append_right (by simpa using hi), List.getElem?_replicate] at h
      split at h <;> cases h
  have noow : ∀ (i : Nat) (d : D), ¬ (cs.map some ++ List.replicate (N.length - np) none)[i]? = some (some (.ow d)) := fun i d h => by
    rcases ARepA.get i ra with ⟨v, c, _, e2, q⟩ | ⟨_, e2⟩
    · rw [get i _ h] at e2
      cases e2
      exact q
    · rw [get i _ h] at e2
      cases e2
  refine ⟨⟨sf, ?_, fun i c h => ?_, fun i j d e a h _ _ _ => absurd h (noow i d), hd⟩, fun _ _ h _ => h, fun _ h => h, same_refl, fun _ h => .inl h, fun a ⟨i, d, h, _⟩ => absurd h (noow i d)⟩
  · unfold L2.start
    simp only [List.length_append, List.length_map, List.length_replicate]
    omega
  · have h' := get i c h
    rcases ARepA.get i ra with ⟨v, c', e1, e2, q⟩ | ⟨_, e2⟩
    · rw [h'] at e2
      cases e2
      refine ⟨v, ?_, ?_⟩
      · unfold L2.start
        have hi : i < vs.length := (List.getElem?_eq_some_iff.mp e1).1
        rw [List.getElem?_append_left (by simpa using hi), List.getElem?_map, e1]
        rfl
      · cases c with
        | sh d => exact q
        | deal => exact q
        | _ => exact q.elim
    · rw [h'] at e2
      cases e2
theorem JJ.post {dA : DA} {F0 H0 F H : Hp} {σ : SS} {s : Sto} (J : JJ ⟨K, w, P⟩ dA F0 H0 F H σ s) : PostC dA F0 H0 F H := ⟨J.k0, J.l0, J.f0, J.rel.sub, J.n0⟩
theorem find_look : ∀ {ds : List DC} {f : Str} {i : FI}, (ds.map fun d => (d.f, (⟨d.ps.length⟩ : FI))).lookup f = some i → ∃ d ∈ ds, ds.find? (fun d => f == d.f) = some d ∧ i.np = d.ps.length ∧ d.f = f
  | [], _, _, h => by cases h
  | d :: r, f, i, h => by
    rw [List.map_cons, List.lookup_cons] at h
    cases e : f == d.f with
    | true =>
      rw [e] at h
      cases h
      exact ⟨d, List.mem_cons_self .., by rw [List.find?_cons, e], rfl, (beq_iff_eq.mp e).symm⟩
    | false =>
      rw [e] at h
      obtain ⟨d', h1, h2, h3, h4⟩ := find_look h
      exact ⟨d', List.mem_cons_of_mem _ h1, by rw [List.find?_cons, e]; exact h2, h3, h4⟩
theorem call_len {T' : Tab} : ∀ {n : Nat} {f : Str} {df : Def} {cs : List Cell} {dl : Option Dl}, T'.fn f = some df → call T' n f cs dl ≠ .stuck → cs.length = df.np
  | 0, _, _, _, _, _, h => absurd rfl h
  | n + 1, f, df, cs, dl, e, h => by
    unfold call at h
    rw [e] at h
    dsimp only at h
    unfold runDef at h
    split at h
    · assumption
    · exact absurd rfl h
theorem tab_ok {m : Nat} (p : PF P w K mg base T ds tk m) : ∀ n, TabF P w ⟨K, w, P⟩ mg base (n + 1) T ⟨call (tabOf ds tk T.exs) n, tk, T.exs⟩ := by
  have ofD : ∀ n, (∀ d ∈ ds, ds.find? (fun e => d.f == e.f) = some d → ∀ fa fd, FunD K d.f d.f d.params d.body d.scope [] [] fa fd → FnOk P w K mg base (L2.CX P w) (n + 1) fa fd d.ps (spOf ⟨K, w, P⟩ mg d.ps.length (call (tabOf ds tk T.exs) n d.f))) →
      TabF P w ⟨K, w, P⟩ mg base (n + 1) T ⟨call (tabOf ds tk T.exs) n, tk, T.exs⟩ := fun n hf => by
    have tfn : ∀ {f : Str} {d : DC}, ds.find? (fun e => f == e.f) = some d → (tabOf ds tk T.exs).fn f = some d.def := fun {f d} h => by
      show (ds.find? fun d => f == d.f).map DC.def = _
      rw [h]; rfl
    refine ⟨fun f i h => ?_, fun f i h cs dl hs => ?_, fun q hq => ?_, p.cst, p.blt, p.ex, p.xm, rfl⟩
    · rw [p.fns] at h
      obtain ⟨d, h1, h2, h3, h4⟩ := find_look h
      obtain ⟨fa, fd, g1, g2⟩ := p.defs d h1
      subst h4
      exact ⟨fa, fd, d.ps, g1, g2.kp, p.bnd d h1 fa fd g2, by rw [h3]; exact hf d h1 h2 fa fd g2, h3.symm⟩
    · rw [p.fns] at h
      obtain ⟨d, h1, h2, h3, h4⟩ := find_look h
      rw [call_len (tfn h2) hs, h3]
      rfl
    · obtain ⟨d, h1, h2, h3⟩ := p.kws q hq
      have hm : d ∈ ds := List.mem_of_find?_eq_some h1
      have he : q.1 = d.f := by
        have := List.find?_some h1
        exact beq_iff_eq.mp this
      rw [he] at h1
      obtain ⟨fa, fd, g1, g2⟩ := p.defs d hm
      rw [he]
      exact ⟨fa, fd, d.ps, d.ps.length, ⟨g1, g2.kp, p.bnd d hm fa fd g2, hf d hm h1 fa fd g2, rfl⟩, fun cs dl hs => call_len (tfn h1) hs, h3 fa fd g2, h2⟩
  intro n
  induction n with
  | zero =>
    refine ofD 0 fun d hd hf fa fd F => ⟨fun vs H Q E h => ?_, fun A outer s H args us vs Q E _ _ _ _ h => ?_⟩
    · obtain ⟨_, _, _, _, _, hl, _⟩ := h
      exact hl
    · obtain ⟨_, _, _, _, _, _, _, _, z⟩ := h
      exact z.elim
  | succ n ih =>
    refine ofD (n + 1) fun d hd hf fa fd F => F.ok (p.sco d hd) (fun vs H Q E h => ?_) (fun cdv A outer s H vs Q E hr h => ?_)
    · obtain ⟨_, _, _, _, _, hl, _⟩ := h
      exact hl
    · obtain ⟨dA, F1, cs, dl, sf, hl, ra, hdl, h⟩ := h
      have S := p.sco d hd
      have hpl : d.ps.length ≤ d.N.length := by
        have := congrArg List.length S.pre
        rw [List.length_take] at this
        omega
      let X := cxOf (L2.CX P w) P w K mg base d.N d.f d.scope fa cdv A outer s H E
      let W : WX := fun cls dd _ H' => E cls dd H'
      let C : Cal := ⟨call (tabOf ds tk T.exs) n, tk, T.exs⟩
      have tk0 : Takes X W := takes_of (X := X) (E := E) rfl rfl rfl rfl
      have po : PassesOwn (model X.prog X.w) X.A X.env X.xe := passes_of (X := X) (K := fun e s'' => L2.CX P w outer H s E e s'') rfl
      have G : GoodS ⟨T, d.N, d.scope, d.scope, true, d.dn, d.cn⟩ C (n + 1) X W := ⟨⟨fun _ => rfl, rfl, S.nd, rfl, S.kind, fun _ _ => rfl, fun _ => hr, ih⟩, tk0, po, fun _ => ⟨rfl, rfl⟩⟩
      have q := (cmpS_snd (cmp_snd m) m).ss (dA := dA) G (p.chk d hd)
      refine ⟨_, q, F1, H, F1, ⟨cs.map some ++ List.replicate (d.N.length - d.ps.length) none, dl⟩, rel_start sf hl ra hdl hpl, ?_⟩
      have lc : cs.length = d.ps.length := by rw [← Paired.length ra]; exact hl
      have ec : call (tabOf ds tk T.exs) (n + 1) d.f cs dl = runDef C d.def cs dl := by
        show (match (ds.find? fun e => d.f == e.f).map DC.def with
          | some df => runDef C df cs dl
          | none => .stuck) = _
        rw [hf]
        rfl
      rw [ec] at h
      unfold runDef at h
      rw [if_pos (show cs.length = d.def.np from lc)] at h
      revert h
      show (match (match evSs C d.sms ⟨cs.map some ++ List.replicate (d.N.length - d.ps.length) none, dl⟩ with
        | .ok .nx s => CRes.ret (.sh .none) s.dl
        | .ok (.ret rv) s => .ret rv s.dl
        | .exc c s => .exc c s.dl
        | _ => .stuck) with
        | .ret rv dl' => ∀ v F' H', PostC dA F1 H F' H' → DealOk dA F' H' dl' → RRep ⟨K, w, P⟩ H F' H' v rv → Q v H'
        | .exc c dl' => ∀ C F' H', mg c = some (.ref C) → PostC dA F1 H F' H' → DealOk dA F' H' dl' → E (.ref C) none H'
        | .stuck => False) → _
      cases evSs C d.sms ⟨cs.map some ++ List.replicate (d.N.length - d.ps.length) none, dl⟩ with
      | stuck => exact fun h => h.elim
      | exc c s' => exact fun h C' F' H' σ' e J => h C' F' H' e J.post J.rel.deal
      | ok fl s' =>
        cases fl with
        | nx => exact fun h F' H' σ' J => h .non F' H' J.post J.rel.deal .non
        | brk => exact fun h => h.elim
        | cnt => exact fun h => h.elim
        | ret rv => exact fun h v F' H' σ' J r => h v F' H' J.post J.rel.deal r
end
end WV
namespace WV
open PySem PySem.Spec PyProof.Rows L2
/-! ## the deal is made; the law -/
def spDeal (K : KW) (cl : List Int → List Int) (rest : List Int) : Sp := fun vs H Q _ => ∃ (a : Addr) (ns : List Int), vs = [.ref a] ∧ SqL K H a (ns.map V.int) ∧
  ∀ (p c : Addr) (H' : Hp), p ≠ c → H p = none → H c = none → Same H H' → H' p = some (.lst (.ref c :: rest.map V.int)) → H' c = some (.lst ((cl ns).map V.int)) → Q (.ref p) H'
def spLaw (K : KW) : Sp := fun vs H Q _ => ∃ (a : Addr) (ns : List Int), vs = [.ref a] ∧ ns.length ≤ 63 ∧ SqL K H a (ns.map V.int) ∧ ∀ H', Q (.bl true) H'
theorem RReps.ints {K : KW} {F H : Hp} : ∀ {Hb : Hp} {vs : List V} {is : List Int}, RReps K F H Hb vs (is.map fun i => RV.sh (.int i)) → vs = is.map V.int
  | _, _, [], .nil => rfl
  | _, _, i :: is, .cons r _ _ rr => by
    cases r
    rw [RReps.ints rr]
    rfl
/-- the script alone -/
def onlyA (H : Hp) (a : Addr) : Hp := fun b => if b = a then H a else none
theorem onlyA_same {H : Hp} {a : Addr} : Same (onlyA H a) H := fun b o e => by
  unfold onlyA at e
  split at e
  · rename_i q; rw [q]; exact e
  · cases e
theorem onlyA_sq {K : PySem.W.Frag} {H : Hp} {a : Addr} {xs : List V} (h : SqL K H a xs) : SqL K (onlyA H a) a xs := by
  rcases h with h | h
  · left
    have e : onlyA H a a = H a := by unfold onlyA; rw [if_pos rfl]
    rcases h with h | ⟨o, h⟩
    · exact .inl (e.trans h)
    · exact .inr ⟨o, e.trans h⟩
  · exact .inr h
/-- the state at the entry -/
def sto0 (N : List Str) (ns : List Int) : Sto := ⟨some (.scr ns) :: List.replicate (N.length - 1) none, none⟩
theorem get0 {N : List Str} {ns : List Int} {i : Nat} {c : Cell} (h : (sto0 N ns).env[i]? = some (some c)) : i = 0 ∧ c = .scr ns := by
  unfold sto0 at h
  cases i with
  | zero => cases h; exact ⟨rfl, rfl⟩
  | succ i =>
    rw [List.getElem?_cons_succ, List.getElem?_replicate] at h
    split at h <;> cases h
theorem start1 {N : List Str} {v : V} : (L2.start N [v])[0]? = some (some v) := rfl
section
variable {P : Program} {w : World} {K : PySem.W.Frag} {mg : Str → Option Value} {base : Heap} {T : TabC} {C : Cal} {k m : Nat}
theorem rel0 {H : Hp} {a : Addr} {ns : List Int} {N : List Str} (hS : SqL K H a (ns.map V.int)) (hN : 1 ≤ N.length) : Rel ⟨K, w, P⟩ none (onlyA H a) H (L2.start N [.ref a]) (sto0 N ns) := by
  refine ⟨onlyA_same, ?_, fun i c h => ?_, fun i j d e b h1 => ?_, rfl⟩
  · unfold sto0 L2.start
    simp only [List.length_append, List.length_map, List.length_replicate, List.length_cons, List.length_nil]
    omega
  · obtain ⟨rfl, rfl⟩ := get0 h
    exact ⟨_, start1, a, rfl, onlyA_sq hS⟩
  · obtain ⟨_, z⟩ := get0 h1
    cases z
theorem deal_ok (tab : TabF P w ⟨K, w, P⟩ mg base k T C) {x : Str} {params : Arguments} {scope : Scope} {N : List Str} {fa : Addr} {fd : FuncData} {es : List Expr} {p1 p2 : Pos} {xs : Exs} {cl : List Int → List Int} {rest : List Int}
    (F : FunD K x x params [.Return (some (.List es p1)) p2] scope [] [] fa fd) (S : FnScope N ["script"] scope) (hN : 1 ≤ N.length) (hr : rest.length < 100)
    (chk : (cmp m).es ⟨T, N, scope, scope, true, "", ""⟩ es = some xs)
    (hev : ∀ ns, ∃ s', evR C xs (sto0 N ns) = .ok (.fr (.list ((cl ns).map PyData.int)) :: rest.map fun i => RV.sh (.int i)) s') : FnOk P w K mg base (L2.CX P w) (k + 1) fa fd ["script"] (spDeal ⟨K, w, P⟩ cl rest) := by
  refine F.ok S (fun vs H Q E h => ?_) (fun cdv A outer s H vs Q E hrm h => ?_)
  · obtain ⟨_, _, rfl, _⟩ := h
    rfl
  · obtain ⟨a, ns, rfl, hS, hq⟩ := h
    let X := cxOf (L2.CX P w) P w K mg base N x scope fa cdv A outer s H E
    let W : WX := fun cls dd _ H' => E cls dd H'
    have tk0 : Takes X W := takes_of (X := X) (E := E) rfl rfl rfl rfl
    have G : Good ⟨T, N, scope, scope, true, "", ""⟩ C k X := ⟨fun _ => rfl, rfl, S.nd, rfl, S.kind, fun _ _ => rfl, fun _ => hrm, tab⟩
    have ha := ((cmp_snd m).es (dA := none) G tk0 chk).2.2.1
    refine ⟨_, pss_one (ps_ret (pe_lst ha)), onlyA H a, sto0 N ns, rel0 hS hN, ?_⟩
    obtain ⟨s', he⟩ := hev ns
    rw [he]
    intro vs F' H' R' x' rr
    cases rr with
    | cons r l1 l2 rr =>
      obtain ⟨c, rfl, h1, h2, vs2, h3, h4⟩ := r
      have e2 := h4.ints
      subst e2
      have e3 := RReps.ints rr
      subst e3
      refine ⟨?_, fun p hp => ?_⟩
      · have := sizeLine_eq
        simp only [List.length_cons, List.length_map]
        have : sizeLine = 16777216 := by decide
        omega
      · have pc : p ≠ c := fun z => by subst z; rw [hp] at h3; cases h3
        refine hq p c _ pc (live_none x'.live hp) h2 (fun b o e => ?_) upd_same (by rw [upd_ne (Ne.symm pc)]; exact h3)
        have hb : H' b = some o := x'.keep b o e (fun ⟨i, d, z, _⟩ => by obtain ⟨_, q⟩ := get0 z; cases q) (fun ⟨_, _, z, _⟩ => nomatch z)
        rw [upd_ne (fun z => by subst z; rw [hp] at hb; cases hb)]
        exact hb
theorem tab_up (tab : TabF P w ⟨K, w, P⟩ mg base k T C) : TabF P w ⟨K, w, P⟩ mg base (k + 1) T C := by
  refine ⟨fun f i h => ?_, tab.st, fun q hq => ?_, tab.cst, tab.blt, tab.ex, tab.xm, tab.hex⟩
  · obtain ⟨fa, fd, ps, F⟩ := tab.fn f i h
    exact ⟨fa, fd, ps, F.gl, F.kp, F.bd, F.ok.mono (by omega), F.ln⟩
  · obtain ⟨fa, fd, ps, np, F, r⟩ := tab.kw q hq
    exact ⟨fa, fd, ps, np, ⟨F.gl, F.kp, F.bd, F.ok.mono (by omega), F.ln⟩, r⟩
/-- the deal's def, taken apart -/
def dealEs : List Stmt → List Expr
  | [.Return (some (.List es _)) _] => es
  | _ => []
def dealP : List Stmt → Pos × Pos
  | [.Return (some (.List _ p)) q] => (p, q)
  | _ => (⟨0, 0, 0, 0⟩, ⟨0, 0, 0, 0⟩)
def lawPs : List Stmt → Pos × Pos × Pos × Pos × Pos
  | .Assign [.Name _ px] (.Call (.Name _ fp) [.Name _ sp] [] cp) ap :: _ => (px, fp, sp, cp, ap)
  | _ => (⟨0, 0, 0, 0⟩, ⟨0, 0, 0, 0⟩, ⟨0, 0, 0, 0⟩, ⟨0, 0, 0, 0⟩, ⟨0, 0, 0, 0⟩)
def lawB (x df : Str) (b : List Stmt) : List Stmt := .Assign [.Name x (lawPs b).1] (.Call (.Name df (lawPs b).2.1) [.Name "script" (lawPs b).2.2.1] [] (lawPs b).2.2.2.1) (lawPs b).2.2.2.2 :: b.tail
theorem law_ok {CX' : CXT} (tab : TabF P w ⟨K, w, P⟩ mg base k T C) {df : Str} {fD : Addr} {fdD : FuncData} {cl : List Int → List Int} {rest : List Int} (FD : FnOk P w K mg base (L2.CX P w) k fD fdD ["script"] (spDeal ⟨K, w, P⟩ cl rest)) (gD : mg df = some (.ref fD))
    (kD : PySem.W.keepIn K (.ref fD) = true) (bD : Binds K fdD ["script"] []) {x lw : Str} {params : Arguments} {scope : Scope} {N : List Str} {fa : Addr} {fd : FuncData} {px fp sp cp ap : Pos} {r : List Stmt} {sms : Sms} {i : Nat}
    (F : FunD K lw lw params (.Assign [.Name x px] (.Call (.Name df fp) [.Name "script" sp] [] cp) ap :: r) scope [] [] fa fd) (S : FnScope N ["script"] scope) (hN : 1 ≤ N.length) (hi0 : 1 ≤ i)
    (h1 : CE.wr ⟨T, N, scope, scope, true, "", ""⟩ x = some i) (h2 : CE.rd ⟨T, N, scope, scope, true, "", ""⟩ "script" = some 0) (h3 : CE.gl ⟨T, N, scope, scope, true, "", ""⟩ df = true)
    (chk : (cmpS (cmp m) m).ss ⟨T, N, scope, scope, true, "", ""⟩ r = some sms)
    (hev : ∀ ns : List Int, ns.length ≤ 63 → ∃ s', evSs C sms ⟨(sto0 N ns).env.set i (some .deal), some ⟨cl ns, rest⟩⟩ = .ok (.ret (.sh (.bool true))) s') : FnOk P w K mg base CX' (k + 1) fa fd ["script"] (spLaw ⟨K, w, P⟩) := by
  refine F.ok S (fun vs H Q E h => ?_) (fun cdv A outer s H vs Q E hrm h => ?_)
  · obtain ⟨_, _, rfl, _⟩ := h
    rfl
  · obtain ⟨a, ns, rfl, hl, hS, hq⟩ := h
    let X := cxOf CX' P w K mg base N lw scope fa cdv A outer s H E
    let W : WX := WF
    have tk0 : Takes X W := takesF
    have po : PassesOwn (model X.prog X.w) X.A X.env X.xe := passes_of (X := X) (K := fun e s'' => CX' outer H s E e s'') (E₁ := fun e' s'' => CX' outer H s E e' s'') rfl
    have G : GoodS ⟨T, N, scope, scope, true, "", ""⟩ C k X W := ⟨⟨fun _ => rfl, rfl, S.nd, rfl, S.kind, fun _ _ => rfl, fun _ => hrm, tab⟩, tk0, po, fun _ => ⟨rfl, rfl⟩⟩
    obtain ⟨g1, g2, g3, g4⟩ := G.wr h1
    obtain ⟨g5, g6⟩ := G.gl h3
    have s1 := ps_set (pos := ap) g1 g2 g3 (pe_callS (p := fp) (pos := cp) FD hrm g5 gD kD bD (passAt tk0) (pa_cons (G.rd h2 sp) pa_nil) g6) (rfl : swapsWith _ (some (.Name x px)) _ _ = _) g4
    have hs := s1.mono (t' := fun D σ H => tAsg (tCallS (spDeal ⟨K, w, P⟩ cl rest) (WE W) (tCons (tVar 0) tNil)) (gName i) D σ H) fun _ _ _ h => h
    obtain ⟨s', he⟩ := hev ns hl
    refine ⟨_, ⟨fun pins s σ H D I h => (pss_cons (t := fun D σ H => tAsg (tCallS (spDeal ⟨K, w, P⟩ cl rest) (WE W) (tCons (tVar 0) tNil)) (gName i) D σ H) (u := fun D σ H => ∃ dA, TSof X dA W (evSs C sms) D σ H) hs ⟨fun pins s σ H D I ⟨dA, h⟩ => ((cmpS_snd (cmp_snd m) m).ss (dA := dA) G chk).run pins s σ H D I h⟩).run pins s σ H D I h⟩, ?_⟩
    refine ⟨_, start1, a, ns, rfl, hS, fun p c H' pc hp hc sH e1 e2 => ?_⟩
    have sF : Same (onlyA H a) H' := Same.trans' onlyA_same sH
    have nF : ∀ b, H b = none → onlyA H a b = none := fun b hb => none_of_same onlyA_same hb
    have R0 := rel0 (P := P) (w := w) (K := K) (N := N) hS hN
    have get : ∀ (j : Nat) (cc : Cell), ((sto0 N ns).env.set i (some .deal))[j]? = some (some cc) → (j = i ∧ cc = .deal ∧ i < (sto0 N ns).env.length) ∨ (j = 0 ∧ cc = .scr ns) := fun j cc h => by
      by_cases z : i = j
      · subst z
        by_cases hi : i < (sto0 N ns).env.length
        · rw [List.getElem?_set_self hi] at h
          cases h
          exact .inl ⟨rfl, rfl, hi⟩
        · rw [List.getElem?_eq_none (by rw [List.length_set]; omega)] at h
          cases h
      · rw [List.getElem?_set_ne z] at h
        exact .inr (get0 h)
    have J : JJ ⟨K, w, P⟩ (some (p, c)) (onlyA H a) H' (onlyA H a) H' ((L2.start N [.ref a]).set i (some (.ref p))) ⟨(sto0 N ns).env.set i (some .deal), some ⟨cl ns, rest⟩⟩ := by
      refine ⟨⟨sF, ?_, fun j cc h => ?_, fun j l d e b h1 => ?_, ⟨p, c, rfl, pc, e1, e2, nF p hp, nF c hc⟩⟩, fun _ _ h _ => h, fun _ h => h, same_refl, fun _ h => .inl h, fun b ⟨j, d, h, _⟩ => ?_⟩
      · show ((sto0 N ns).env.set i _).length = _
        rw [List.length_set, List.length_set]
        exact R0.len
      · rcases get j cc h with ⟨rfl, rfl, hi⟩ | ⟨rfl, rfl⟩
        · exact ⟨_, List.getElem?_set_self (by rw [← R0.len]; exact hi), p, c, rfl, rfl⟩
        · exact ⟨_, by rw [List.getElem?_set_ne (by omega)]; exact start1, a, rfl, onlyA_sq hS⟩
      · rcases get j _ h1 with ⟨_, z, _⟩ | ⟨_, z⟩ <;> cases z
      · rcases get j _ h with ⟨_, z, _⟩ | ⟨_, z⟩ <;> cases z
    refine ⟨some (p, c), onlyA H a, H', onlyA H a, _, J, ?_⟩
    rw [he]
    intro v F' H'' σ' J' r
    cases r
    exact hq H''
end
end WV
namespace WV
open PySem PySem.Spec PyProof.Rows L2
/-! ## the head's facts, for a table -/
mutual
def datB (K : PySem.W.Frag) : D → Value → Bool
  | .none, .none => true
  | .bool b, .bool c => b == c
  | .int i, .int j _ => decide (i = j)
  | .str x, .str y _ => decide (x = y)
  | .tuple ds, .ref a => (match K.lookup a with
    | some ⟨.type c, _, .seq its _, _⟩ => decide (c = "tuple") && (decide (its.size ≤ sizeLine) && datAll K ds its.toList)
    | _ => false)
  | _, _ => false
def datAll (K : PySem.W.Frag) : List D → List Value → Bool
  | [], [] => true
  | d :: ds, u :: us => datB K d u && datAll K ds us
  | _, _ => false
end
mutual
theorem datB_ok {P : Program} {w : World} {K : PySem.W.Frag} : ∀ {d : D} {u : Value}, datB K d u = true → ∃ v, RelV v u ∧ ∀ F, Rep ⟨K, w, P⟩ F v d
  | .none, u, h => by
    cases u <;> simp only [datB] at h <;> first | (cases h; done) | exact ⟨.non, rfl, fun F => .non⟩
  | .bool b, u, h => by
    cases u <;> simp only [datB] at h <;> first | (cases h; done) | skip
    have e := eq_of_beq h
    subst e
    exact ⟨.bl b, rfl, fun F => .bl _⟩
  | .int i, u, h => by
    cases u <;> simp only [datB] at h <;> first | (cases h; done) | skip
    have e := of_decide_eq_true h
    subst e
    exact ⟨.int i, ⟨_, rfl⟩, fun F => .int _⟩
  | .str x, u, h => by
    cases u <;> simp only [datB] at h <;> first | (cases h; done) | skip
    have e := of_decide_eq_true h
    subst e
    exact ⟨.str x, ⟨_, rfl⟩, fun F => .str _⟩
  | .list _, u, h => by cases u <;> simp only [datB] at h <;> cases h
  | .dict _, u, h => by cases u <;> simp only [datB] at h <;> cases h
  | .tuple ds, u, h => by
    cases u <;> simp only [datB] at h <;> first | (cases h; done) | skip
    rename_i a
    split at h
    · rename_i c od its n osl q
      simp only [Bool.and_eq_true, decide_eq_true_eq] at h
      obtain ⟨vs, r1, r2⟩ := datAll_ok h.2.2
      exact ⟨.ref a, rfl, fun F => .tup (.inr ⟨_, its, n, q, congrArg Value.type h.1, rfl, h.2.1, r1⟩) (r2 F)⟩
    · cases h
theorem datAll_ok {P : Program} {w : World} {K : PySem.W.Frag} : ∀ {ds : List D} {us : List Value}, datAll K ds us = true → ∃ vs, Vals vs us ∧ ∀ F, RepA ⟨K, w, P⟩ F vs ds
  | [], us, h => by
    cases us <;> simp only [datAll] at h <;> first | (cases h; done) | exact ⟨[], .nil, fun F => .nil⟩
  | d :: ds, us, h => by
    cases us <;> simp only [datAll] at h <;> first | (cases h; done) | skip
    simp only [Bool.and_eq_true] at h
    obtain ⟨v, r1, r2⟩ := datB_ok h.1
    obtain ⟨vs, r3, r4⟩ := datAll_ok h.2
    exact ⟨v :: vs, .cons r1 r3, fun F => .cons (r2 F) (r4 F)⟩
end
def cstB (K : PySem.W.Frag) (q : Str × D) : Bool := match PySem.W.nsIn K mainGlobals q.1 with
  | some (some u) => datB K q.2 u
  | _ => false
/-! ### tables of texts -/
def flatB : D → Value → Bool
  | .none, .none => true
  | .bool b, .bool c => b == c
  | .int i, .int j _ => decide (i = j)
  | .str x, .str y _ => decide (x = y)
  | _, _ => false
theorem flatB_ok {d : D} {u : Value} (h : flatB d u = true) : ∃ v, RelV v u ∧ flatR v d := by
  cases d <;> cases u <;> simp only [flatB] at h <;> first | (cases h; done) | skip
  · exact ⟨.non, rfl, .non⟩
  · have e := eq_of_beq h
    subst e
    exact ⟨.bl _, rfl, .bl _⟩
  · have e := of_decide_eq_true h
    subst e
    exact ⟨.int _, ⟨_, rfl⟩, .int _⟩
  · have e := of_decide_eq_true h
    subst e
    exact ⟨.str _, ⟨_, rfl⟩, .str _⟩
def txtOf : D → Str
  | .str x => x
  | _ => ""
def txtKeys (kvs : List (D × D)) : List Str := kvs.map fun p => txtOf p.1
def dctB (K : PySem.W.Frag) (a : Addr) (kvs : List (D × D)) : Bool := (!kvs.isEmpty && kvs.all fun p => isTxt p.1) && kvs.all fun p => match PySem.W.nsIn K a (txtOf p.1) with
  | some (some u) => flatB p.2 u
  | _ => false
theorem nsIn_no {K : PySem.W.Frag} {a : Addr} {es : Array DictEntry} {n : Nat} (hl : K.lookup a = some ⟨.type "dict", none, .dict es n, #[]⟩) {P : Params} {ks : List Str} (h : es.toList.map He.keyOf = He.keysIn P ks) {z : Str} (hz : z ∉ ks) : PySem.W.nsIn K a z = some none := by
  have key : ∀ (l : List DictEntry) (ks : List Str), l.map He.keyOf = He.keysIn P ks → z ∉ ks → l.find? (·.key.isStr z) = none ∧ l.any (·.refKey) = false := by
    intro l
    induction l with
    | nil => exact fun _ _ _ => ⟨rfl, rfl⟩
    | cons e r ih =>
      intro ks h hz
      cases ks with
      | nil => cases h
      | cons k ks =>
        have h1 : He.keyOf e :: r.map He.keyOf = He.keysIn P (k :: ks) := h
        injection h1 with h2 h3
        obtain ⟨q1, q2⟩ := ih ks h3 fun w => hz (List.mem_cons_of_mem _ w)
        unfold He.keyOf at h2
        split at h2
        · rename_i x t q
          have h4 := Option.some.inj h2
          obtain ⟨h5, h6⟩ := Prod.mk.inj h4
          have hne : ¬ x = z := fun w => hz (by rw [← w, h5]; exact List.mem_cons_self ..)
          refine ⟨?_, ?_⟩
          · rw [List.find?_cons]
            have : e.key.isStr z = false := by
              rw [q]
              simp [Value.isStr]
              exact hne
            rw [this]
            exact q1
          · rw [List.any_cons, q2]
            simp [DictEntry.refKey, q]
        · cases h2
  obtain ⟨q1, q2⟩ := key es.toList ks h hz
  unfold PySem.W.nsIn
  rw [hl]
  dsimp only
  rw [q1, q2]
  rfl
theorem dGet_mem {kvs : List (D × D)} {k : Key} {d : D} (h : dGet kvs k = some d) : ∃ p ∈ kvs, keyV p.1 = some k ∧ p.2 = d := by
  unfold dGet at h
  obtain ⟨p, h1, h2⟩ := Option.map_eq_some_iff.mp h
  exact ⟨p, List.mem_of_find?_eq_some h1, by simpa using List.find?_some h1, h2⟩
theorem dGet_none {kvs : List (D × D)} {k : Key} (h : dGet kvs k = none) : ∀ p ∈ kvs, ¬ keyV p.1 = some k := by
  unfold dGet at h
  intro p hp q
  have := List.find?_eq_none.mp (Option.map_eq_none_iff.mp h) p hp
  simp [q] at this
theorem dctB_ok {K : PySem.W.Frag} {w : World} {P : Program} {a : Addr} {kvs : List (D × D)} (h : dctB K a kvs = true) (hk : He.dicW K a = some (He.keysIn w.params (txtKeys kvs))) : KDK ⟨K, w, P⟩ a kvs := by
  unfold dctB at h
  rw [Bool.and_eq_true] at h
  obtain ⟨es, n, D⟩ := He.dicW_ok hk
  refine ⟨h.1, ⟨es, n, D⟩, fun z => ?_⟩
  cases e : dGet kvs (.inr z) with
  | some d =>
    obtain ⟨p, hp, h1, h2⟩ := dGet_mem e
    have q := List.all_eq_true.mp h.2 p hp
    have h3 := keyV_some h1
    have h4 : txtOf p.1 = z := by rw [h3]; rfl
    rw [h4] at q
    split at q
    · rename_i u e2
      obtain ⟨v, q1, q2⟩ := flatB_ok q
      rw [h2] at q2
      exact ⟨some u, e2, u, v, rfl, q1, q2⟩
    · cases q
  | none =>
    have hm : es.toList.map He.keyOf = He.keysIn w.params (txtKeys kvs) := by
      have hl := D.at_
      unfold He.dicW at hk
      have e1 : K.lookup a = some ⟨.type "dict", none, .dict es n, #[]⟩ := hl
      rw [e1] at hk
      have : (match decide (("dict" : String) = "dict") && ((#[] : Array (Option Value)).isEmpty && !(a == sysModules)) with
        | true => some (es.toList.map He.keyOf)
        | false => none) = some (He.keysIn w.params (txtKeys kvs)) := hk
      split at this
      · exact Option.some.inj this
      · cases this
    refine ⟨none, nsIn_no D.at_ hm fun hz => ?_, rfl⟩
    obtain ⟨p, hp, h2⟩ := List.mem_map.mp hz
    have h3 := List.all_eq_true.mp ((Bool.and_eq_true _ _ ▸ h.1).2) p hp
    refine dGet_none e p hp ?_
    cases hd : p.1 with
    | str x =>
      rw [hd] at h2
      have : x = z := h2
      rw [this]
      rfl
    | _ => rw [hd] at h3; cases h3
/-! ### the hook -/
/-- the tables of a text: where, and their keys -/
abbrev Tbs : Type := List (Str × List Str)
abbrev AlW : Type := (He.AlD × Bool) × List (Option (List (Option (Str × Int))))
def tbsIn (tb : Tbs) (K : PySem.W.Frag) : List (Option (List (Option (Str × Int)))) := tb.map fun q => He.dicW K (He.ga K q.1)
def tbsOf (tb : Tbs) (w : World) : List (Option (List (Option (Str × Int)))) := tb.map fun q => some (He.keysIn w.params q.2)
def obsK (fa : List He.Fa) (fn : List He.DefD) (ex : PySem.W.Frag → Bool) (tb : Tbs) (K : PySem.W.Frag) : AlW := ((He.obsD fa fn K, ex K), tbsIn tb K)
def obsW (n : Nat) (fa : List He.Fa) (fn : List He.DefD) (ex : PySem.W.Frag → Bool) (tb : Tbs) (g : Addr → Option Obj) : AlW := obsK fa fn ex tb (He.frG g (He.asD g n))
def hookW (n : Nat) (fa : List He.Fa) (fn : List He.DefD) (ex : PySem.W.Frag → Bool) (tb : Tbs) : PySem.W.Hook where
  α := AlW
  obs := fun s => obsW n fa fn ex tb s.heap.get?
  val := fun w => ((He.valD fn, true), tbsOf tb w)
  says := fun w h => ∃ K : PySem.W.Frag, K.In h ∧ He.SaysD fa fn K ∧ ex K = true ∧ tbsIn tb K = tbsOf tb w
  of := fun _ _ e => ⟨_, He.frG_in, congrArg (fun z : AlW => z.1.1) e, congrArg (fun z : AlW => z.1.2) e, congrArg (fun z : AlW => z.2) e⟩
  keeps := fun _ _ _ ⟨K, hK, c⟩ k => ⟨K, PySem.W.Frag.In.keeps hK k, c⟩
theorem obsW_eq {n : Nat} {fa : List He.Fa} {fn : List He.DefD} {ex : PySem.W.Frag → Bool} {tb : Tbs} {g : Addr → Option Obj} {s : Shared} (h : ∀ a, g a = s.heap.get? a) : obsW n fa fn ex tb g = (hookW n fa fn ex tb).obs s := by
  have e : g = s.heap.get? := funext h
  rw [e] <;> rfl
/-! ### the table's facts -/
def DC.dd (d : DC) : He.DefD := ⟨(d.f, none), d.f, d.f, d.params, d.body, d.scope, [], []⟩
def faOf (T : TabC) (ns : List Str) : List He.Fa := ns.map .glo ++ (T.blt.map .free ++ (T.exs.map .glo ++ (T.exs.map .exc ++ T.exs.flatMap fun x => T.exs.map fun y => .exm x y (excHd x y))))
def isDct : D → Bool
  | .dict _ => true
  | _ => false
def exOf (T : TabC) (K : PySem.W.Frag) : Bool := T.cst.all fun q => match q.2 with
  | .dict kvs => (PySem.W.nsIn K mainGlobals q.1).any (fun o => o.any fun u => decide (u = .ref (He.ga K q.1))) && dctB K (He.ga K q.1) kvs
  | _ => cstB K q
def tbOf (T : TabC) : Tbs := T.cst.filterMap fun q => match q.2 with
  | .dict kvs => some (q.1, txtKeys kvs)
  | _ => none
theorem lookup_mem {α : Type} : ∀ {l : List (Str × α)} {x : Str} {d : α}, l.lookup x = some d → (x, d) ∈ l
  | (y, e) :: r, x, d, h => by
    rw [List.lookup_cons] at h
    split at h
    · rename_i q
      cases h
      have := beq_iff_eq.mp q
      subst this
      exact List.mem_cons_self ..
    · exact List.mem_cons_of_mem _ (lookup_mem h)
section
variable {P : Program} {w : World} {K : PySem.W.Frag} {mg : Str → Option Value} {base h : Heap} {T : TabC} {ds : List DC} {ns : List Str} {fn : List He.DefD} {tk : Dl → Int → Option (Int × Dl)} {m : Nat}
theorem pf_of (X : K.In h) (G : h.Ns mainGlobals mg) (c : He.SaysD (faOf T ns) fn K) (hx : exOf T K = true ∧ tbsIn (tbOf T) K = tbsOf (tbOf T) w) (h1 : ∀ d ∈ ds, d.f ∈ ns ∧ d.dd ∈ fn)
    (bnd : ∀ d ∈ ds, ∀ fa fd, FunD K d.f d.f d.params d.body d.scope [] [] fa fd → Binds K fd d.ps [])
    (chk : ∀ d ∈ ds, (cmpS (cmp m) m).ss ⟨T, d.N, d.scope, d.scope, true, d.dn, d.cn⟩ d.body = some d.sms) (sco : ∀ d ∈ ds, FnScope d.N d.ps d.scope) (fns : T.fns = ds.map fun d => (d.f, ⟨d.ps.length⟩))
    (kws : ∀ q ∈ T.kws, ∃ d, ds.find? (fun d => q.1 == d.f) = some d ∧ q.2.1 + q.2.2.1.length = q.2.2.2.length ∧ ∀ fa fd, FunD K d.f d.f d.params d.body d.scope [] [] fa fd → KBn K fd d.ps q.2.1 q.2.2.1 (pick q.2.2.2) (pick q.2.2.2)) :
    PF P w K mg base T ds tk m := by
  have fact : ∀ f, f ∈ faOf T ns → f.ok K = true := fun f hf => c.facts hf
  have glo : ∀ x ∈ T.exs, mg x = some (.ref (He.ga K x)) := fun x hxm => He.glo_ok X G (fact (.glo x) (by
    unfold faOf
    simp only [List.mem_append, List.mem_map]
    exact .inr (.inr (.inl ⟨x, hxm, rfl⟩))))
  refine ⟨fun d hd => ?_, bnd, chk, sco, fns, kws, fun x d hl => ?_, fun x hb => ?_, fun x hxm => ?_, fun x hxm y hym D D' e1 e2 => ?_⟩
  · obtain ⟨q1, q2⟩ := h1 d hd
    obtain ⟨fd, F⟩ := c.defs q2
    refine ⟨He.ga K d.f, fd, He.glo_ok X G (fact (.glo d.f) ?_), F⟩
    unfold faOf
    simp only [List.mem_append, List.mem_map]
    exact .inl ⟨d.f, q1, rfl⟩
  · have hm := lookup_mem hl
    have q := List.all_eq_true.mp hx.1 _ hm
    dsimp only at q
    cases d with
    | dict kvs =>
      simp only [Bool.and_eq_true] at q
      have hin : (x, txtKeys kvs) ∈ tbOf T := List.mem_filterMap.mpr ⟨_, hm, rfl⟩
      have ht : He.dicW K (He.ga K x) = some (He.keysIn w.params (txtKeys kvs)) := by
        obtain ⟨i, hi⟩ := List.mem_iff_getElem?.mp hin
        have e2 : (tbsIn (tbOf T) K)[i]? = (tbsOf (tbOf T) w)[i]? := by rw [hx.2]
        unfold tbsIn tbsOf at e2
        rw [List.getElem?_map, List.getElem?_map, hi] at e2
        exact Option.some.inj e2
      obtain ⟨o, e3, e4⟩ : ∃ o, PySem.W.nsIn K mainGlobals x = some o ∧ o.any (fun u => decide (u = .ref (He.ga K x))) = true := by
        have z := q.1
        cases e : PySem.W.nsIn K mainGlobals x with
        | none => rw [e] at z; cases z
        | some o => rw [e] at z; exact ⟨o, rfl, z⟩
      obtain ⟨u, e5, e6⟩ : ∃ u, o = some u ∧ u = .ref (He.ga K x) := by
        cases o with
        | none => cases e4
        | some u => exact ⟨u, rfl, of_decide_eq_true e4⟩
      subst e5 e6
      exact ⟨_, .ref (He.ga K x), PySem.W.mg_of X G e3, rfl, fun F => .kdc (dctB_ok q.2 ht)⟩
    | _ =>
    unfold cstB at q
    dsimp only at q
    split at q
    · rename_i u e
      obtain ⟨v, r1, r2⟩ := datB_ok (P := P) (w := w) q
      exact ⟨u, v, PySem.W.mg_of X G e, r1, r2⟩
    · cases q
  · refine He.free_ok X G (fact (.free x) ?_)
    unfold faOf
    simp only [List.mem_append, List.mem_map]
    exact .inr (.inl ⟨x, hb, rfl⟩)
  · obtain ⟨k1, k2, k3, k4⟩ := He.exc_ok (fact (.exc x) (by
      unfold faOf
      simp only [List.mem_append, List.mem_map]
      exact .inr (.inr (.inr (.inl ⟨x, hxm, rfl⟩)))))
    exact ⟨He.ga K x, glo x hxm, ⟨He.veBase, "ValueError", "ValueError.__new__", "ValueError.__init__", PySem.F.excBase_ValueError, k1⟩, k2, k3, k4⟩
  · have k := He.exm_ok (fact (.exm x y (excHd x y)) (by
      unfold faOf
      simp only [List.mem_append, List.mem_flatMap, List.mem_map]
      exact .inr (.inr (.inr (.inr ⟨x, hxm, y, hym, rfl⟩)))))
    rw [glo x hxm] at e1
    rw [glo y hym] at e2
    cases e1
    cases e2
    exact k
theorem _root_.L2.FunD.kbn0 {x qual : Str} {params : Arguments} {body : List Stmt} {scope : Scope} {f : Addr} {fd : FuncData} {ps ks : List Str} {n : Nat} {pm : List Nat} (F : FunD K x qual params body scope [] [] f fd)
    (h : ∀ (kV doc pm' : Value) (an : Option Addr) (cdv ct : Value) (us ws : List Value), us.length = n → ws.length = ks.length → bindArgs (PySem.W.fnOf x qual params body scope .none kV doc pm' an cdv ct) ⟨us, ks.zip ws⟩ = pure (ps.zip (pick pm us ws))) : KBn K fd ps n ks (pick pm) (pick pm) := by
  obtain ⟨oc, od, dV, kV, doc, pm', an, cdv, ct, osl, rfl, lk, hcd, hD, hK⟩ := F.ex
  rcases hD with ⟨_, rfl⟩ | ⟨e, _⟩
  · exact ⟨fun s us ws _ l1 l2 => .of_eq (h kV doc pm' an cdv ct us ws l1 l2), fun r q => Vals.pick pm r q⟩
  · exact absurd rfl e
end
end WV
namespace WV
open PySem PySem.Spec PyProof.Rows L2
/-! ## plain: evaluating -/
@[simp] theorem bind_ok {α β : Type} (a : α) (s : Sto) (f : α → Sto → Out β) : (Out.ok a s).bind f = f a s := rfl
@[simp] theorem bind_exc {α β : Type} (c : Str) (s : Sto) (f : α → Sto → Out β) : (Out.exc (α := α) c s).bind f = .exc c s := rfl
@[simp] theorem bind_stuck {α β : Type} (f : α → Sto → Out β) : (Out.stuck (α := α)).bind f = .stuck := rfl
/-- the numbers behind the cells' list -/
def lits : List Int → Exs
  | [] => .nil
  | i :: r => .cons (.lit (.int i)) (lits r)
theorem evR_lits (C : Cal) (s : Sto) : ∀ r : List Int, evR C (lits r) s = .ok (r.map fun i => RV.sh (.int i)) s
  | [] => rfl
  | i :: r => by
    show ((evE C (.lit (.int i)) s).bind fun q s1 => (evR C (lits r) s1).bind fun rs s2 => .ok (q :: rs) s2) = _
    show ((Out.ok (RV.sh (.int i)) s).bind fun q s1 => (evR C (lits r) s1).bind fun rs s2 => .ok (q :: rs) s2) = _
    rw [bind_ok, evR_lits C s r]
    rfl
def xDeal (r : List Int) : Exs := .cons (.lc [1] (.nm 1) (.seq (.cuts 0 63)) .no (.bin .mod (.bi .int (.v 1)) (.bin .pow (.lit (.int 10)) (.lit (.int 60))))) (lits r)
theorem deal_step (C : Cal) (i : Int) (a : Option Cell) (b : Option Cell) : lcBody [1] (.nm 1) (evC C .no) (evE C (.bin .mod (.bi .int (.v 1)) (.bin .pow (.lit (.int 10)) (.lit (.int 60))))) (.int i) ⟨[a, b], none⟩ = .ok (some (.int (i % 10 ^ 60))) ⟨[a, some (.sh (.int i))], none⟩ := by
  kernel_rfl
theorem deal_loop (C : Cal) (a : Option Cell) : ∀ (l : List Int) (acc : List D) (b : Option Cell), acc.length + l.length ≤ 100 →
    ∃ b', lcLoop (lcBody [1] (.nm 1) (evC C .no) (evE C (.bin .mod (.bi .int (.v 1)) (.bin .pow (.lit (.int 10)) (.lit (.int 60)))))) (l.map PyData.int) acc ⟨[a, b], none⟩ = .ok (acc ++ l.map fun i => .int (i % 10 ^ 60)) ⟨[a, b'], none⟩
  | [], acc, b, _ => ⟨b, by simp [lcLoop]⟩
  | i :: l, acc, b, h => by
    have hz : acc.length < sizeLine := by
      have : sizeLine = 16777216 := by decide
      simp only [List.length_cons] at h
      omega
    obtain ⟨b', e⟩ := deal_loop C a l (acc ++ [.int (i % 10 ^ 60)]) (some (.sh (.int i))) (by simp only [List.length_append, List.length_cons, List.length_nil] at *; omega)
    refine ⟨b', ?_⟩
    rw [List.map_cons]
    unfold lcLoop
    rw [deal_step]
    simp only [hz, if_true]
    rw [e]
    simp
theorem dealEv (C : Cal) (r : List Int) (ns : List Int) : ∃ s', evR C (xDeal r) (sto0 ["script", "cell"] ns) = .ok (.fr (.list (((ns.take 63).map fun i => i % 10 ^ 60).map PyData.int)) :: r.map fun i => RV.sh (.int i)) s' := by
  obtain ⟨b', e⟩ := deal_loop C (some (.scr ns)) (ns.take 63) [] none (by simp only [List.length_nil, List.length_take]; omega)
  refine ⟨⟨[some (.scr ns), none], none⟩, ?_⟩
  have h1 : evE C (.lc [1] (.nm 1) (.seq (.cuts 0 63)) .no (.bin .mod (.bi .int (.v 1)) (.bin .pow (.lit (.int 10)) (.lit (.int 60))))) (sto0 ["script", "cell"] ns) = .ok (.fr (.list ((ns.take 63).map fun i => PyData.int (i % 10 ^ 60)))) ⟨[some (.scr ns), none], none⟩ := by
    show ((lcLoop (lcBody [1] (.nm 1) (evC C .no) (evE C (.bin .mod (.bi .int (.v 1)) (.bin .pow (.lit (.int 10)) (.lit (.int 60)))))) ((ns.take 63).map PyData.int) [] ⟨[some (.scr ns), none], none⟩).bind fun ds s2 => Out.ok (RV.fr (.list ds)) { s2 with env := restE s2.env [some (.scr ns), none] [1] }) = _
    rw [e]
    rfl
  show ((evE C (.lc [1] (.nm 1) (.seq (.cuts 0 63)) .no (.bin .mod (.bi .int (.v 1)) (.bin .pow (.lit (.int 10)) (.lit (.int 60))))) (sto0 ["script", "cell"] ns)).bind fun q s1 => (evR C (lits r) s1).bind fun rs s2 => .ok (q :: rs) s2) = _
  rw [h1, bind_ok, evR_lits]
  simp only [bind_ok, List.map_map]
  rfl
end WV
namespace WV
open PySem PySem.Spec PyProof.Rows L2
/-! ## equations of the evaluator -/
@[simp] def isV : Ex → Bool
  | .v _ => true
  | _ => false
@[simp] theorem opd_v {i : Nat} {r : Out RV} {s : Sto} : opd (.v i) r s = if ((Opd.slot i).get s).isSome then .ok (.slot i) s else .stuck := rfl
theorem opd_n {e : Ex} {r : Out RV} {s : Sto} (h : isV e = false) : opd e r s = r.bind fun rv s' => .ok (.dat rv.dat) s' := by
  cases e <;> first | rfl | cases h
@[simp] theorem get_dat {d : D} {s : Sto} : (Opd.dat d).get s = some d := rfl
@[simp] theorem get_slot {i : Nat} {s : Sto} : (Opd.slot i).get s = match s.env[i]? with
    | some (some (.sh d)) => some d
    | some (some (.ow d)) => some d
    | some (some .dcl) => s.dl.map fun dl => .list (dl.cells.map PyData.int)
    | _ => none := rfl
@[simp] theorem outO_so {α : Type} {a : α} {s : Sto} : outO (some a) s = .ok a s := rfl
@[simp] theorem outO_no {α : Type} {s : Sto} : outO (none : Option α) s = .stuck := rfl
@[simp] theorem lift1_eq {g : D → Option RV} {o : Opd} {s : Sto} : lift1 g o s = outO ((o.get s).bind g) s := rfl
@[simp] theorem lift2_eq {g : D → D → Option RV} {o p : Opd} {s : Sto} : lift2 g o p s = outO ((o.get s).bind fun d => (p.get s).bind fun e => g d e) s := rfl
@[simp] theorem dat_sh {d : D} : (RV.sh d).dat = d := rfl
@[simp] theorem dat_fr {d : D} : (RV.fr d).dat = d := rfl
@[simp] theorem cell_sh {d : D} : (RV.sh d).cell = .sh d := rfl
@[simp] theorem cell_fr {d : D} : (RV.fr d).cell = .ow d := rfl
@[simp] theorem setS {e : List (Option Cell)} {dl : Option Dl} {i : Nat} {c : Cell} : Sto.set ⟨e, dl⟩ i c = ⟨e.set i (some c), dl⟩ := rfl
@[simp] theorem isTst_opd {o : COp} {a b : Ex} {r : Out RV} {s : Sto} : opd (.cmp o a b) r s = r.bind fun rv s' => .ok (.dat rv.dat) s' := rfl
@[simp] theorem opd_lit {d : D} {r : Out RV} {s : Sto} : opd (.lit d) r s = r.bind fun rv s' => .ok (.dat rv.dat) s' := rfl
@[simp] theorem opd_gl {x : Str} {d : D} {r : Out RV} {s : Sto} : opd (.gl x d) r s = r.bind fun rv s' => .ok (.dat rv.dat) s' := rfl
@[simp] theorem opd_bi {b : Bi} {a : Ex} {r : Out RV} {s : Sto} : opd (.bi b a) r s = r.bind fun rv s' => .ok (.dat rv.dat) s' := rfl
@[simp] theorem opd_bin {o : BOp} {a b : Ex} {r : Out RV} {s : Sto} : opd (.bin o a b) r s = r.bind fun rv s' => .ok (.dat rv.dat) s' := rfl
@[simp] theorem opd_chn {o o' : COp} {a b c : Ex} {r : Out RV} {s : Sto} : opd (.chn o o' a b c) r s = r.bind fun rv s' => .ok (.dat rv.dat) s' := rfl
@[simp] theorem opd_isi {a : Ex} {t : Ty} {r : Out RV} {s : Sto} : opd (.isi a t) r s = r.bind fun rv s' => .ok (.dat rv.dat) s' := rfl
@[simp] theorem opd_call {f : Str} {es : Exs} {r : Out RV} {s : Sto} : opd (.call f es) r s = r.bind fun rv s' => .ok (.dat rv.dat) s' := rfl
@[simp] theorem opd_callk {f : Str} {es ws : Exs} {ks : List Str} {pm : List Nat} {r : Out RV} {s : Sto} : opd (.callk f es ws ks pm) r s = r.bind fun rv s' => .ok (.dat rv.dat) s' := rfl
@[simp] theorem opd_tup {es : Exs} {r : Out RV} {s : Sto} : opd (.tup es) r s = r.bind fun rv s' => .ok (.dat rv.dat) s' := rfl
@[simp] theorem opd_lst {es : Exs} {r : Out RV} {s : Sto} : opd (.lst es) r s = r.bind fun rv s' => .ok (.dat rv.dat) s' := rfl
@[simp] theorem opd_ix {a b : Ex} {r : Out RV} {s : Sto} : opd (.ix a b) r s = r.bind fun rv s' => .ok (.dat rv.dat) s' := rfl
@[simp] theorem opd_slc {a : Ex} {l h : Exo} {r : Out RV} {s : Sto} : opd (.slc a l h) r s = r.bind fun rv s' => .ok (.dat rv.dat) s' := rfl
@[simp] theorem opd_lc {own : List Nat} {t : Tg} {it : Itr} {c : Exo} {e : Ex} {r : Out RV} {s : Sto} : opd (.lc own t it c e) r s = r.bind fun rv s' => .ok (.dat rv.dat) s' := rfl
@[simp] theorem opd_and {a b : Ex} {r : Out RV} {s : Sto} : opd (.and a b) r s = r.bind fun rv s' => .ok (.dat rv.dat) s' := rfl
@[simp] theorem opd_or {a b : Ex} {r : Out RV} {s : Sto} : opd (.or a b) r s = r.bind fun rv s' => .ok (.dat rv.dat) s' := rfl
@[simp] theorem opd_not {a : Ex} {r : Out RV} {s : Sto} : opd (.not a) r s = r.bind fun rv s' => .ok (.dat rv.dat) s' := rfl
@[simp] theorem opd_ife {a b c : Ex} {r : Out RV} {s : Sto} : opd (.ife a b c) r s = r.bind fun rv s' => .ok (.dat rv.dat) s' := rfl
@[simp] theorem opd_neg {a : Ex} {r : Out RV} {s : Sto} : opd (.neg a) r s = r.bind fun rv s' => .ok (.dat rv.dat) s' := rfl
@[simp] theorem opd_min2 {a b : Ex} {r : Out RV} {s : Sto} : opd (.min2 a b) r s = r.bind fun rv s' => .ok (.dat rv.dat) s' := rfl
@[simp] theorem opd_lens {i : Nat} {r : Out RV} {s : Sto} : opd (.lens i) r s = r.bind fun rv s' => .ok (.dat rv.dat) s' := rfl
@[simp] theorem opd_rev {a : Ex} {r : Out RV} {s : Sto} : opd (.rev a) r s = r.bind fun rv s' => .ok (.dat rv.dat) s' := rfl
@[simp] theorem opd_dsp {ks : List D} {es : Exs} {r : Out RV} {s : Sto} : opd (.dsp ks es) r s = r.bind fun rv s' => .ok (.dat rv.dat) s' := rfl
@[simp] theorem opd_emp {r : Out RV} {s : Sto} : opd .emp r s = r.bind fun rv s' => .ok (.dat rv.dat) s' := rfl
@[simp] theorem opd_pop {i : Nat} {r : Out RV} {s : Sto} : opd (.pop i) r s = r.bind fun rv s' => .ok (.dat rv.dat) s' := rfl
@[simp] theorem opd_dget {i k : Nat} {r : Out RV} {s : Sto} : opd (.dget i k) r s = r.bind fun rv s' => .ok (.dat rv.dat) s' := rfl
@[simp] theorem opd_dpop {i : Nat} {r : Out RV} {s : Sto} : opd (.dpop i) r s = r.bind fun rv s' => .ok (.dat rv.dat) s' := rfl
@[simp] theorem retV_v {i : Nat} {r : Out RV} {s : Sto} : retV (.v i) r s = match s.env[i]? with
    | some (some (.ow d)) => .ok (.fr d) s
    | some (some (.sh d)) => .ok (.sh d) s
    | _ => .stuck := rfl
theorem retV_n {e : Ex} {r : Out RV} {s : Sto} (h : isV e = false) : retV e r s = r := by
  cases e <;> first | rfl | cases h
@[simp] theorem truD_bool {b : Bool} : truD (.bool b) = some b := rfl
@[simp] theorem cmpG_eq : cmpG .eq = gEq := rfl
@[simp] theorem cmpG_ne : cmpG .ne = gNe := rfl
@[simp] theorem cmpG_lt {i j : Int} : cmpG .lt (.int i) (.int j) = some (.sh (.bool (decide (i < j)))) := rfl
@[simp] theorem cmpG_le {i j : Int} : cmpG .le (.int i) (.int j) = some (.sh (.bool (decide (i ≤ j)))) := rfl
@[simp] theorem cmpG_gt {i j : Int} : cmpG .gt (.int i) (.int j) = some (.sh (.bool (decide (j < i)))) := rfl
@[simp] theorem cmpG_ge {i j : Int} : cmpG .ge (.int i) (.int j) = some (.sh (.bool (decide (j ≤ i)))) := rfl
@[simp] theorem binG_sub {i j : Int} : binG .sub (.int i) (.int j) = some (.sh (.int (i - j))) := rfl
@[simp] theorem binG_add {i j : Int} : binG .add (.int i) (.int j) = some (.sh (.int (i + j))) := rfl
@[simp] theorem gEq_int {i j : Int} : gEq (.int i) (.int j) = some (.sh (.bool (i == j))) := rfl
@[simp] theorem gNe_int {i j : Int} : gNe (.int i) (.int j) = some (.sh (.bool (!(i == j)))) := rfl
@[simp] theorem gEq_bool {i j : Bool} : gEq (.bool i) (.bool j) = some (.sh (.bool (i == j))) := rfl
@[simp] theorem gNe_bool {i j : Bool} : gNe (.bool i) (.bool j) = some (.sh (.bool (!(i == j)))) := rfl
section
variable {C : Cal} {s : Sto}
@[simp] theorem E_v {i : Nat} : evE C (.v i) s = match s.env[i]? with
    | some (some (.sh d)) => .ok (.sh d) s
    | some (some (.ow d)) => .ok (.sh d) (s.set i (.sh d))
    | _ => .stuck := rfl
@[simp] theorem E_lit {d : D} : evE C (.lit d) s = .ok (.sh d) s := rfl
@[simp] theorem E_gl {x : Str} {d : D} : evE C (.gl x d) s = .ok (.sh d) s := rfl
@[simp] theorem E_tup {es : Exs} : evE C (.tup es) s = (evEs C es s).bind fun ds s' => if ds.length ≤ sizeLine then .ok (.sh (.tuple ds)) s' else .stuck := rfl
@[simp] theorem E_lst {es : Exs} : evE C (.lst es) s = (evEs C es s).bind fun ds s' => if ds.length ≤ sizeLine then .ok (.fr (.list ds)) s' else .stuck := rfl
@[simp] theorem E_bin {o : BOp} {a b : Ex} : evE C (.bin o a b) s = (opd a (evE C a s) s).bind fun x s1 => (opd b (evE C b s1) s1).bind fun y s2 => lift2 (binG o) x y s2 := rfl
@[simp] theorem E_cmp {o : COp} {a b : Ex} : evE C (.cmp o a b) s = (opd a (evE C a s) s).bind fun x s1 => (opd b (evE C b s1) s1).bind fun y s2 => lift2 (cmpG o) x y s2 := rfl
@[simp] theorem E_chn {o o' : COp} {a b c : Ex} : evE C (.chn o o' a b c) s = (opd a (evE C a s) s).bind fun x s1 => (opd b (evE C b s1) s1).bind fun y s2 =>
      (lift2 (cmpG o) x y s2).bind fun r s3 => match r.dat with
        | .bool true => (opd c (evE C c s3) s3).bind fun z s4 => lift2 (cmpG o') y z s4
        | .bool false => .ok (.sh (.bool false)) s3
        | _ => .stuck := rfl
@[simp] theorem E_and {a b : Ex} : evE C (.and a b) s = (evE C a s).bind fun r s1 => match truD r.dat with
    | some true => evE C b s1
    | some false => .ok (.sh r.dat) s1
    | none => .stuck := rfl
@[simp] theorem E_or {a b : Ex} : evE C (.or a b) s = (evE C a s).bind fun r s1 => match truD r.dat with
    | some false => evE C b s1
    | some true => .ok (.sh r.dat) s1
    | none => .stuck := rfl
@[simp] theorem E_not {a : Ex} : evE C (.not a) s = (opd a (evE C a s) s).bind fun x s1 => outO (((x.get s1).bind truD).map fun b => .sh (.bool (!b))) s1 := rfl
@[simp] theorem E_ife {c a b : Ex} : evE C (.ife c a b) s = (evT C c s).bind fun t s1 => if t then evE C a s1 else evE C b s1 := rfl
@[simp] theorem E_neg {a : Ex} : evE C (.neg a) s = (opd a (evE C a s) s).bind fun x s1 => lift1 negG x s1 := rfl
@[simp] theorem E_ix {a b : Ex} : evE C (.ix a b) s = (opd a (evE C a s) s).bind fun x s1 => (opd b (evE C b s1) s1).bind fun y s2 => lift2 gIx x y s2 := rfl
@[simp] theorem E_slc {a : Ex} {lo hi : Exo} : evE C (.slc a lo hi) s = (opd a (evE C a s) s).bind fun x s1 => (evX C lo s1).bind fun l s2 => (evX C hi s2).bind fun h s3 => outO ((x.get s3).bind (slcG l h)) s3 := rfl
@[simp] theorem E_isi {a : Ex} {t : Ty} : evE C (.isi a t) s = (opd a (evE C a s) s).bind fun x s1 => lift1 (fun d => some (.sh (.bool (isTy t d)))) x s1 := rfl
@[simp] theorem E_bi {b : Bi} {a : Ex} : evE C (.bi b a) s = (opd a (evE C a s) s).bind fun x s1 => lift1 (biG b) x s1 := rfl
@[simp] theorem E_min2 {a b : Ex} : evE C (.min2 a b) s = (opd a (evE C a s) s).bind fun x s1 => (opd b (evE C b s1) s1).bind fun y s2 => lift2 minG x y s2 := rfl
@[simp] theorem E_rev {a : Ex} : evE C (.rev a) s = (opd a (evE C a s) s).bind fun x s1 => lift1 revG x s1 := rfl
@[simp] theorem E_emp : evE C .emp s = .ok (.fr (.dict [])) s := rfl
@[simp] theorem E_dsp {ks : List D} {es : Exs} : evE C (.dsp ks es) s = (evEs C es s).bind fun ds s' => outO (dspG ks ds) s' := rfl
@[simp] theorem E_lens {i : Nat} : evE C (.lens i) s = match s.env[i]? with
    | some (some (.scr ns)) => .ok (.sh (.int ns.length)) s
    | _ => .stuck := rfl
@[simp] theorem E_call {f : Str} {es : Exs} : evE C (.call f es) s = (evA C es s).bind fun cs s1 => match C.fn f cs s1.dl with
    | .ret rv d => .ok rv { s1 with dl := d }
    | .exc c d => .exc c { s1 with dl := d }
    | .stuck => .stuck := rfl
@[simp] theorem E_callk {f : Str} {es ws : Exs} {ks : List Str} {pm : List Nat} : evE C (.callk f es ws ks pm) s = (evA C es s).bind fun cs s1 => (evA C ws s1).bind fun ds s2 => if cs.length + ks.length = pm.length ∧ ds.length = ks.length then (match C.fn f (pm.filterMap fun j => (cs ++ ds)[j]?) s2.dl with
    | .ret rv d => .ok rv { s2 with dl := d }
    | .exc c d => .exc c { s2 with dl := d }
    | .stuck => .stuck) else .stuck := rfl
theorem E_lc {own : List Nat} {t : Tg} {it : Itr} {c : Exo} {e : Ex} : evE C (.lc own t it c e) s = (evI C it s).bind fun items s1 => (lcLoop (lcBody own t (evC C c) (evE C e)) items [] s1).bind fun ds s2 => .ok (.fr (.list ds)) { s2 with env := restE s2.env s1.env own } := rfl
@[simp] theorem E_pop {i : Nat} : evE C (.pop i) s = match getOw s i with
    | some ds => match ds.getLast? with
      | some d => .ok (.sh d) (s.set i (.ow (.list ds.dropLast)))
      | none => .stuck
    | none => .stuck := rfl
@[simp] theorem E_popAt {i : Nat} {e : Ex} : evE C (.popAt i e) s = if (getOw s i).isNone then .stuck else (opd e (evE C e s) s).bind fun x s1 => match getOw s1 i, x.get s1 with
    | some ds, some (.int j) => if -(2 ^ 63) ≤ j ∧ j < 2 ^ 63 then (match seqIndex? j ds.length with
        | some k => match ds[k]? with
          | some d => .ok (.sh d) (s1.set i (.ow (.list (ds.eraseIdx k))))
          | none => .stuck
        | none => .stuck) else .stuck
    | _, _ => .stuck := rfl
@[simp] theorem E_app {i : Nat} {e : Ex} : evE C (.app i e) s = if (getOw s i).isNone then .stuck else (evE C e s).bind fun r s1 => match getOw s1 i with
    | some ds => if ds.length < sizeLine then .ok (.sh .none) (s1.set i (.ow (.list (ds ++ [r.dat])))) else .stuck
    | none => .stuck := rfl
@[simp] theorem E_ext {i : Nat} {e : Ex} : evE C (.ext i e) s = if (getOw s i).isNone then .stuck else (opd e (evE C e s) s).bind fun x s1 => match getOw s1 i, x.get s1 with
    | some ds, some (.list es) => if ds.length + es.length ≤ sizeLine then .ok (.sh .none) (s1.set i (.ow (.list (ds ++ es)))) else .stuck
    | _, _ => .stuck := rfl
@[simp] theorem E_dget {i k : Nat} : evE C (.dget i k) s = match isDeal s i, s.dl with
    | true, some dl => match dl.rest[k]? with
      | some n => .ok (.sh (.int n)) s
      | none => .stuck
    | _, _ => .stuck := rfl
@[simp] theorem E_dpop {i : Nat} : evE C (.dpop i) s = match s.env[i]?, s.dl with
    | some (some .dcl), some dl => match dl.cells with
      | n :: r => .ok (.sh (.int n)) { s with dl := some { dl with cells := r } }
      | [] => .stuck
    | _, _ => .stuck := rfl
@[simp] theorem Es_nil : evEs C .nil s = .ok [] s := rfl
@[simp] theorem Es_cons {e : Ex} {es : Exs} : evEs C (.cons e es) s = (evE C e s).bind fun r s1 => (evEs C es s1).bind fun ds s2 => .ok (r.dat :: ds) s2 := rfl
@[simp] theorem R_nil : evR C .nil s = .ok [] s := rfl
@[simp] theorem R_cons {e : Ex} {es : Exs} : evR C (.cons e es) s = (evE C e s).bind fun r s1 => (evR C es s1).bind fun ds s2 => .ok (r :: ds) s2 := rfl
@[simp] theorem A_nil : evA C .nil s = .ok [] s := rfl
@[simp] theorem A_cons {e : Ex} {es : Exs} : evA C (.cons e es) s = match (match e with
      | .v i => isDeal s i
      | _ => false) with
    | true => (evA C es s).bind fun ds s2 => .ok (.deal :: ds) s2
    | false => (evE C e s).bind fun r s1 => (evA C es s1).bind fun ds s2 => .ok (.sh r.dat :: ds) s2 := rfl
@[simp] theorem X_no : evX C .no s = .ok none s := rfl
@[simp] theorem X_so {e : Ex} : evX C (.so e) s = (evE C e s).bind fun r s1 => match r.dat with
    | .int i => .ok (some i) s1
    | _ => .stuck := rfl
@[simp] theorem C_no : evC C .no s = .ok true s := rfl
@[simp] theorem C_so {e : Ex} : evC C (.so e) s = evT C e s := rfl
@[simp] theorem I_rg1 {a : Ex} : evI C (.rg1 a) s = (evE C a s).bind fun r s1 => outO (rngItems (.int 0) r.dat) s1 := rfl
@[simp] theorem I_rg2 {a b : Ex} : evI C (.rg2 a b) s = (evE C a s).bind fun r s1 => (evE C b s1).bind fun q s2 => outO (rngItems r.dat q.dat) s2 := rfl
@[simp] theorem I_seq {a : Ex} : evI C (.seq a) s = (evE C a s).bind fun r s1 => outO (seqItems r.dat) s1 := rfl
@[simp] theorem I_enum {a : Ex} : evI C (.enum a) s = (evE C a s).bind fun r s1 => outO (enumItems r.dat) s1 := rfl
@[simp] theorem I_zip {a b : Ex} : evI C (.zip a b) s = (evE C a s).bind fun r s1 => (evE C b s1).bind fun q s2 => outO (zipItems r.dat q.dat) s2 := rfl
@[simp] theorem I_rev {a : Ex} : evI C (.rev a) s = (evE C a s).bind fun r s1 => outO ((seqItems r.dat).map List.reverse) s1 := rfl
/-! tests -/
theorem T_mk {x : Ex} (h : isTst x = true) : evT C x s = (opd x (evE C x s) s).bind fun o s1 => outO ((o.get s1).bind truD) s1 := by rw [mkT h]
@[simp] theorem T_and {a b : Ex} : evT C (.and a b) s = (evT C a s).bind fun t s1 => if t then evT C b s1 else .ok false s1 := rfl
@[simp] theorem T_or {a b : Ex} : evT C (.or a b) s = (evT C a s).bind fun t s1 => if t then .ok true s1 else evT C b s1 := rfl
@[simp] theorem T_not {a : Ex} : evT C (.not a) s = (evT C a s).bind fun t s1 => .ok (!t) s1 := rfl
@[simp] theorem T_v {i : Nat} : evT C (.v i) s = (opd (.v i) (evE C (.v i) s) s).bind fun o s1 => outO ((o.get s1).bind truD) s1 := rfl
@[simp] theorem T_cmp {o : COp} {a b : Ex} : evT C (.cmp o a b) s = (opd (.cmp o a b) (evE C (.cmp o a b) s) s).bind fun o s1 => outO ((o.get s1).bind truD) s1 := rfl
@[simp] theorem T_chn {o o' : COp} {a b c : Ex} : evT C (.chn o o' a b c) s = (opd (.chn o o' a b c) (evE C (.chn o o' a b c) s) s).bind fun o s1 => outO ((o.get s1).bind truD) s1 := rfl
@[simp] theorem T_isi {a : Ex} {t : Ty} : evT C (.isi a t) s = (opd (.isi a t) (evE C (.isi a t) s) s).bind fun o s1 => outO ((o.get s1).bind truD) s1 := rfl
@[simp] theorem T_bi {b : Bi} {a : Ex} : evT C (.bi b a) s = (opd (.bi b a) (evE C (.bi b a) s) s).bind fun o s1 => outO ((o.get s1).bind truD) s1 := rfl
@[simp] theorem T_call {f : Str} {es : Exs} : evT C (.call f es) s = (opd (.call f es) (evE C (.call f es) s) s).bind fun o s1 => outO ((o.get s1).bind truD) s1 := rfl
@[simp] theorem T_callk {f : Str} {es ws : Exs} {ks : List Str} {pm : List Nat} : evT C (.callk f es ws ks pm) s = (opd (.callk f es ws ks pm) (evE C (.callk f es ws ks pm) s) s).bind fun o s1 => outO ((o.get s1).bind truD) s1 := rfl
@[simp] theorem T_lit {d : D} : evT C (.lit d) s = outO (truD d) s := rfl
/-! statements -/
@[simp] theorem Ss_nil : evSs C .nil s = .ok .nx s := rfl
@[simp] theorem Ss_cons {st : Sm} {r : Sms} : evSs C (.cons st r) s = (evS C st s).bind (nextOr (evSs C r)) := rfl
@[simp] theorem n_nx {g : Sto → Out Fl} : nextOr g .nx s = g s := rfl
@[simp] theorem n_ret {g : Sto → Out Fl} {rv : RV} : nextOr g (.ret rv) s = .ok (.ret rv) s := rfl
@[simp] theorem n_brk {g : Sto → Out Fl} : nextOr g .brk s = .ok .brk s := rfl
@[simp] theorem n_cnt {g : Sto → Out Fl} : nextOr g .cnt s = .ok .cnt s := rfl
@[simp] theorem S_asg {i : Nat} {e : Ex} : evS C (.asg i e) s = (evE C e s).bind fun r s1 => .ok .nx (s1.set i r.cell) := rfl
@[simp] theorem S_par {is : List Nat} {es : Exs} : evS C (.par is es) s = (evR C es s).bind fun rs s1 => if rs.length = is.length then .ok .nx (setAll is rs s1) else .stuck := rfl
@[simp] theorem S_unp {is : List Nat} {e : Ex} : evS C (.unp is e) s = (evE C e s).bind fun r s1 => match bindT (.tp is) r.dat s1 with
    | some s2 => .ok .nx s2
    | none => .stuck := rfl
@[simp] theorem S_sub {i : Nat} {ix e : Ex} : evS C (.sub i ix e) s = (evE C e s).bind fun r s1 => if (getOw s1 i).isNone && (getOd s1 i).isNone then .stuck else (opd ix (evE C ix s1) s1).bind fun x s2 => subG (getOw s2 i) (getOd s2 i) (x.get s2) i r.dat s2 := rfl
@[simp] theorem S_aug {i : Nat} {o : BOp} {e : Ex} : evS C (.aug i o e) s = if ((Opd.slot i).get s).isNone then .stuck else (opd e (evE C e s) s).bind fun y s1 => match (Opd.slot i).get s1, y.get s1 with
    | some (.int a), some (.int b) => (match binG o (.int a) (.int b) with
      | some r => .ok .nx (s1.set i r.cell)
      | none => .stuck)
    | _, _ => .stuck := rfl
@[simp] theorem S_exp {e : Ex} : evS C (.exp e) s = (evE C e s).bind fun _ s1 => .ok .nx s1 := rfl
@[simp] theorem S_retv {i : Nat} : evS C (.ret (.v i)) s = (retV (.v i) (evE C (.v i) s) s).bind fun r s1 => .ok (.ret r) s1 := rfl
@[simp] theorem S_ret_lit {d : D} : evS C (.ret (.lit d)) s = (evE C (.lit d) s).bind fun r s1 => .ok (.ret r) s1 := rfl
@[simp] theorem S_ret_gl {x : Str} {d : D} : evS C (.ret (.gl x d)) s = (evE C (.gl x d) s).bind fun r s1 => .ok (.ret r) s1 := rfl
@[simp] theorem S_ret_tup {es : Exs} : evS C (.ret (.tup es)) s = (evE C (.tup es) s).bind fun r s1 => .ok (.ret r) s1 := rfl
@[simp] theorem S_ret_lst {es : Exs} : evS C (.ret (.lst es)) s = (evE C (.lst es) s).bind fun r s1 => .ok (.ret r) s1 := rfl
@[simp] theorem S_ret_bin {o : BOp} {a b : Ex} : evS C (.ret (.bin o a b)) s = (evE C (.bin o a b) s).bind fun r s1 => .ok (.ret r) s1 := rfl
@[simp] theorem S_ret_cmp {o : COp} {a b : Ex} : evS C (.ret (.cmp o a b)) s = (evE C (.cmp o a b) s).bind fun r s1 => .ok (.ret r) s1 := rfl
@[simp] theorem S_ret_chn {o o' : COp} {a b c : Ex} : evS C (.ret (.chn o o' a b c)) s = (evE C (.chn o o' a b c) s).bind fun r s1 => .ok (.ret r) s1 := rfl
@[simp] theorem S_ret_and {a b : Ex} : evS C (.ret (.and a b)) s = (evE C (.and a b) s).bind fun r s1 => .ok (.ret r) s1 := rfl
@[simp] theorem S_ret_or {a b : Ex} : evS C (.ret (.or a b)) s = (evE C (.or a b) s).bind fun r s1 => .ok (.ret r) s1 := rfl
@[simp] theorem S_ret_not {a : Ex} : evS C (.ret (.not a)) s = (evE C (.not a) s).bind fun r s1 => .ok (.ret r) s1 := rfl
@[simp] theorem S_ret_ife {a b c : Ex} : evS C (.ret (.ife a b c)) s = (evE C (.ife a b c) s).bind fun r s1 => .ok (.ret r) s1 := rfl
@[simp] theorem S_ret_neg {a : Ex} : evS C (.ret (.neg a)) s = (evE C (.neg a) s).bind fun r s1 => .ok (.ret r) s1 := rfl
@[simp] theorem S_ret_ix {a b : Ex} : evS C (.ret (.ix a b)) s = (evE C (.ix a b) s).bind fun r s1 => .ok (.ret r) s1 := rfl
@[simp] theorem S_ret_slc {a : Ex} {l h : Exo} : evS C (.ret (.slc a l h)) s = (evE C (.slc a l h) s).bind fun r s1 => .ok (.ret r) s1 := rfl
@[simp] theorem S_ret_isi {a : Ex} {t : Ty} : evS C (.ret (.isi a t)) s = (evE C (.isi a t) s).bind fun r s1 => .ok (.ret r) s1 := rfl
@[simp] theorem S_ret_bi {b : Bi} {a : Ex} : evS C (.ret (.bi b a)) s = (evE C (.bi b a) s).bind fun r s1 => .ok (.ret r) s1 := rfl
@[simp] theorem S_ret_min2 {a b : Ex} : evS C (.ret (.min2 a b)) s = (evE C (.min2 a b) s).bind fun r s1 => .ok (.ret r) s1 := rfl
@[simp] theorem S_ret_call {f : Str} {es : Exs} : evS C (.ret (.call f es)) s = (evE C (.call f es) s).bind fun r s1 => .ok (.ret r) s1 := rfl
@[simp] theorem S_ret_callk {f : Str} {es ws : Exs} {ks : List Str} {pm : List Nat} : evS C (.ret (.callk f es ws ks pm)) s = (evE C (.callk f es ws ks pm) s).bind fun r s1 => .ok (.ret r) s1 := rfl
@[simp] theorem S_ret_lc {own : List Nat} {t : Tg} {it : Itr} {c : Exo} {e : Ex} : evS C (.ret (.lc own t it c e)) s = (evE C (.lc own t it c e) s).bind fun r s1 => .ok (.ret r) s1 := rfl
@[simp] theorem S_ret_rev {a : Ex} : evS C (.ret (.rev a)) s = (evE C (.rev a) s).bind fun r s1 => .ok (.ret r) s1 := rfl
@[simp] theorem S_ret_pop {i : Nat} : evS C (.ret (.pop i)) s = (evE C (.pop i) s).bind fun r s1 => .ok (.ret r) s1 := rfl
theorem S_ret {e : Ex} : evS C (.ret e) s = (retV e (evE C e s) s).bind fun r s1 => .ok (.ret r) s1 := rfl
@[simp] theorem S_retN : evS C .retN s = .ok (.ret (.sh .none)) s := rfl
@[simp] theorem S_iff {c : Ex} {a b : Sms} : evS C (.iff c a b) s = (evT C c s).bind fun t s1 => if t then evSs C a s1 else evSs C b s1 := rfl
theorem S_for {t : Tg} {it : Itr} {b : Sms} : evS C (.forr t it b) s = (evI C it s).bind fun items s1 => forLoop (forBody t (evSs C b)) items s1 := rfl
theorem S_whl {c : Ex} {b : Sms} : evS C (.whl c b) s = whlLoop (evT C c) (evSs C b) turns s := rfl
@[simp] theorem S_rse {c : Str} : evS C (.rse c) s = .exc c s := rfl
@[simp] theorem S_try {b : Sms} {h : Hds} : evS C (.tryy b h) s = match evSs C b s with
    | .exc c s1 => if c ∈ C.ex then evH C h c s1 else .stuck
    | r => r := rfl
@[simp] theorem S_brk : evS C .brk s = .ok .brk s := rfl
@[simp] theorem S_cnt : evS C .cnt s = .ok .cnt s := rfl
@[simp] theorem S_pas : evS C .pas s = .ok .nx s := rfl
@[simp] theorem S_dcel {j i : Nat} : evS C (.dcel j i) s = if isDeal s i then .ok .nx (s.set j .dcl) else .stuck := rfl
@[simp] theorem S_dset {i k : Nat} {e : Ex} : evS C (.dset i k e) s = (evE C e s).bind fun r s1 => if !(isDeal s1 i) then .stuck else match r.dat, s1.dl with
    | .int n, some dl => if k < dl.rest.length then .ok .nx { s1 with dl := some { dl with rest := dl.rest.set k n } } else .stuck
    | _, _ => .stuck := rfl
@[simp] theorem H_nil {c : Str} : evH C .nil c s = .exc c s := rfl
@[simp] theorem H_cons {c c' : Str} {b : Sms} {r : Hds} : evH C (.cons c' b r) c s = if excHd c c' then noExc (evSs C b s) else evH C r c s := rfl
end
@[simp] theorem sz : sizeLine = 16777216 := by decide
@[simp] theorem isDeal_eq2 {e : List (Option Cell)} {dl : Option Dl} {i : Nat} : isDeal ⟨e, dl⟩ i = match e[i]? with
  | some (some .deal) => true
  | _ => false := rfl
@[simp] theorem getOw_eq2 {e : List (Option Cell)} {dl : Option Dl} {i : Nat} : getOw ⟨e, dl⟩ i = match e[i]? with
  | some (some (.ow (.list ds))) => some ds
  | _ => none := rfl
theorem depth_ints : ∀ l : List Int, PyData.depthAll (l.map PyData.int) = 0
  | [] => by simp [PyData.depthAll]
  | i :: l => by simp [PyData.depthAll, PyData.depth, depth_ints l]
theorem lay_ints : ∀ l : List Int, PyData.canLayAll0 (l.map PyData.int) = true
  | [] => by simp [PyData.canLayAll0]
  | i :: l => by simp [PyData.canLayAll0, PyData.canLay0, lay_ints l]
theorem shaped_ints (l : List Int) : SeqAt.shaped (.list (l.map PyData.int)) = true := by
  simp [SeqAt.shaped, PyData.canLay0, PyData.depth, depth_ints, lay_ints]
theorem gNe_nil {ds : List D} (h : SeqAt.shaped (.list ds) = true) : gNe (.list ds) (.list []) = some (.sh (.bool (!ds.isEmpty))) := by
  have h2 : SeqAt.shaped (.list []) = true := by decide
  unfold gNe
  rw [h, h2]
  cases ds with
  | nil => rfl
  | cons x r => rfl
@[simp] theorem gNe_ints {l : List Int} : gNe (.list (l.map PyData.int)) (.list []) = some (.sh (.bool (!l.isEmpty))) := by
  rw [gNe_nil (shaped_ints l)]
  cases l <;> rfl
@[simp] theorem pow5 : binG .pow (.int 10) (.int 5) = some (.sh (.int 100000)) := by kernel_rfl
@[simp] theorem pow6 : binG .pow (.int 10) (.int 6) = some (.sh (.int 1000000)) := by kernel_rfl
@[simp] theorem pow18 : binG .pow (.int 10) (.int 18) = some (.sh (.int 1000000000000000000)) := by kernel_rfl
theorem mulR {i j : Int} (h : -(2 ^ 64) < j) (h2 : j < 2 ^ 64) : binG .mul (.int i) (.int j) = some (.sh (.int (i * j))) := by
  have : cMul i j = true := by unfold cMul; simp; right; constructor <;> omega
  show (if cMul i j then some (RV.sh (PyData.int (i * j))) else none) = _
  rw [this]; rfl
theorem mulL {i j : Int} (h : -(2 ^ 64) < i) (h2 : i < 2 ^ 64) : binG .mul (.int i) (.int j) = some (.sh (.int (i * j))) := by
  have : cMul i j = true := by unfold cMul; simp; left; constructor <;> omega
  show (if cMul i j then some (RV.sh (PyData.int (i * j))) else none) = _
  rw [this]; rfl
theorem modP {i j : Int} (h : 0 < j) : binG .mod (.int i) (.int j) = some (.sh (.int (i % j))) := by
  show (if decide (0 < j) then some (RV.sh (PyData.int (i % j))) else none) = _
  rw [decide_eq_true h]; rfl
theorem divP {i j : Int} (h : 0 < j) (h2 : j < 1073741824) : binG .div (.int i) (.int j) = some (.sh (.int (i / j))) := by
  show (if decide (0 < j) && decide (j < 1073741824) then some (RV.sh (PyData.int (i / j))) else none) = _
  rw [decide_eq_true h, decide_eq_true h2]; rfl
@[simp] theorem biG_int {i : Int} : biG .int (.int i) = some (.sh (.int i)) := rfl
@[simp] theorem biG_tupl {ds : List D} : biG .tup (.list ds) = some (.sh (.tuple ds)) := rfl
@[simp] theorem biG_tupt {ds : List D} : biG .tup (.tuple ds) = some (.sh (.tuple ds)) := rfl
@[simp] theorem biG_lenl {ds : List D} : biG .len (.list ds) = some (.sh (.int ds.length)) := rfl
@[simp] theorem biG_lent {ds : List D} : biG .len (.tuple ds) = some (.sh (.int ds.length)) := rfl
/-! ## loops -/
theorem for_inv {f : D → Sto → Out Fl} {items : List D} {s : Sto} (I : Nat → Sto → Prop) (h0 : I 0 s) (hs : ∀ i x s, items[i]? = some x → I i s → ∃ s', f x s = .ok .nx s' ∧ I (i + 1) s') : ∃ s', forLoop f items s = .ok .nx s' ∧ I items.length s' := by
  induction items generalizing s I with
  | nil => exact ⟨s, rfl, h0⟩
  | cons x r ih =>
    obtain ⟨s', e, h1⟩ := hs 0 x s rfl h0
    obtain ⟨s2, e2, h2⟩ := ih (I := fun i => I (i + 1)) h1 fun i y s hy hI => hs (i + 1) y s (by simpa using hy) hI
    refine ⟨s2, ?_, h2⟩
    unfold forLoop
    rw [e]
    exact e2
/-- a loop that may give back -/
theorem for_ret {f : D → Sto → Out Fl} {items : List D} {s : Sto} (I : Nat → Sto → Prop) (Q : RV → Sto → Prop) (h0 : I 0 s) (hs : ∀ i x s, items[i]? = some x → I i s → (∃ s', f x s = .ok .nx s' ∧ I (i + 1) s') ∨ ∃ rv s', f x s = .ok (.ret rv) s' ∧ Q rv s') :
    (∃ s', forLoop f items s = .ok .nx s' ∧ I items.length s') ∨ ∃ rv s', forLoop f items s = .ok (.ret rv) s' ∧ Q rv s' := by
  induction items generalizing s I with
  | nil => exact .inl ⟨s, rfl, h0⟩
  | cons x r ih =>
    rcases hs 0 x s rfl h0 with ⟨s', e, h1⟩ | ⟨rv, s', e, h1⟩
    · rcases ih (I := fun i => I (i + 1)) h1 fun i y s hy hI => hs (i + 1) y s (by simpa using hy) hI with ⟨s2, e2, h2⟩ | ⟨rv, s2, e2, h2⟩
      · refine .inl ⟨s2, ?_, h2⟩
        unfold forLoop
        rw [e]
        exact e2
      · refine .inr ⟨rv, s2, ?_, h2⟩
        unfold forLoop
        rw [e]
        exact e2
    · refine .inr ⟨rv, s', ?_, h1⟩
      unfold forLoop
      rw [e]
      rfl
/-- a while with a measure -/
theorem whl_inv {c : Sto → Out Bool} {b : Sto → Out Fl} (I : Sto → Prop) (Q : Fl → Sto → Prop) (μ : Sto → Nat) (hs : ∀ s, I s → (∃ s1, c s = .ok false s1 ∧ Q .nx s1) ∨ ∃ s1, c s = .ok true s1 ∧ ((∃ s2, (b s1 = .ok .nx s2 ∨ b s1 = .ok .cnt s2) ∧ I s2 ∧ μ s2 < μ s) ∨ (∃ s2, b s1 = .ok .brk s2 ∧ Q .nx s2) ∨ ∃ rv s2, b s1 = .ok (.ret rv) s2 ∧ Q (.ret rv) s2)) :
    ∀ (n : Nat) (s : Sto), I s → μ s < n → ∃ fl s', whlLoop c b n s = .ok fl s' ∧ Q fl s'
  | 0, s, _, h => by omega
  | n + 1, s, hI, h => by
    rcases hs s hI with ⟨s1, e, q⟩ | ⟨s1, e, ⟨s2, e2, hI2, hm⟩ | ⟨s2, e2, q⟩ | ⟨rv, s2, e2, q⟩⟩
    · refine ⟨.nx, s1, ?_, q⟩
      unfold whlLoop
      rw [e]
      rfl
    · obtain ⟨fl, s', e3, q⟩ := whl_inv I Q μ hs n s2 hI2 (by omega)
      refine ⟨fl, s', ?_, q⟩
      unfold whlLoop
      rw [e, bind_ok, if_pos rfl]
      rcases e2 with e2 | e2 <;> rw [e2] <;> exact e3
    · refine ⟨.nx, s2, ?_, q⟩
      unfold whlLoop
      rw [e, bind_ok, if_pos rfl, e2]
      rfl
    · refine ⟨.ret rv, s2, ?_, q⟩
      unfold whlLoop
      rw [e, bind_ok, if_pos rfl, e2]
      rfl
/-! ## comprehensions -/
theorem wipeE_idem (e : List (Option Cell)) (vs : List Nat) : wipeE (wipeE e vs) vs = wipeE e vs := by
  apply List.ext_getElem?
  intro j
  rw [wipeE_get, wipeE_length]
  split
  · rename_i h; rw [wipeE_get, if_pos h]
  · rfl
theorem restE_of {e e0 : List (Option Cell)} {vs : List Nat} (h : wipeE e vs = wipeE e0 vs) : restE e e0 vs = e0 := by
  have hl : e.length = e0.length := by
    have := congrArg List.length h
    rwa [wipeE_length, wipeE_length] at this
  apply List.ext_getElem?
  intro j
  rw [restE_get]
  split
  · split
    · rename_i _ hj
      rw [List.getElem?_eq_getElem (by omega)]
      rfl
    · rename_i _ hj
      rw [List.getElem?_eq_none (by omega)]
  · rename_i hj
    have := congrArg (fun l => l[j]?) h
    simpa [wipeE_get, hj] using this
theorem lcBody_wipe {own : List Nat} {t : Tg} {fc : Sto → Out Bool} {fe : Sto → Out RV} {x : D} {e e0 : List (Option Cell)} {dl : Option Dl} (h : wipeE e own = wipeE e0 own) : lcBody own t fc fe x ⟨e, dl⟩ = lcBody own t fc fe x ⟨e0, dl⟩ := by
  unfold lcBody wp
  dsimp only
  rw [h]
/-- a comprehension by an invariant over what is made and the deal -/
theorem lc_loop {own : List Nat} {t : Tg} {fc : Sto → Out Bool} {fe : Sto → Out RV} {e0 : List (Option Cell)} (I : Nat → List D → Option Dl → Prop) : ∀ (items : List D) (acc : List D) (e : List (Option Cell)) (dl : Option Dl) (k : Nat), wipeE e own = wipeE e0 own → I k acc dl → acc.length + items.length ≤ sizeLine →
    (∀ i x acc dl, items[i]? = some x → I (k + i) acc dl → ∃ (r : Option D) (e' : List (Option Cell)) (dl' : Option Dl), lcBody own t fc fe x ⟨e0, dl⟩ = .ok r ⟨e', dl'⟩ ∧ wipeE e' own = wipeE e0 own ∧ I (k + i + 1) (acc ++ r.toList) dl') →
    ∃ ds e' dl', lcLoop (lcBody own t fc fe) items acc ⟨e, dl⟩ = .ok ds ⟨e', dl'⟩ ∧ wipeE e' own = wipeE e0 own ∧ I (k + items.length) ds dl'
  | [], acc, e, dl, k, hw, hI, _, _ => ⟨acc, e, dl, rfl, hw, hI⟩
  | x :: r, acc, e, dl, k, hw, hI, hl, hs => by
    obtain ⟨o, e', dl', h1, h2, h3⟩ := hs 0 x acc dl rfl hI
    rw [List.length_cons] at hl
    have hb : lcBody own t fc fe x ⟨e, dl⟩ = .ok o ⟨e', dl'⟩ := (lcBody_wipe hw).trans h1
    have hl2 : (acc ++ o.toList).length + r.length ≤ sizeLine := by
      have hz := sz
      cases o <;> simp <;> omega
    obtain ⟨ds, e2, dl2, q1, q2, q3⟩ := lc_loop I r (acc ++ o.toList) e' dl' (k + 1) h2 h3 hl2 fun i y acc dl hy hI => by
      have := hs (i + 1) y acc dl (by simpa using hy) (by rw [show k + (i + 1) = k + 1 + i by omega]; exact hI)
      rw [show k + (i + 1) + 1 = k + 1 + i + 1 by omega] at this
      exact this
    refine ⟨ds, e2, dl2, ?_, q2, by rw [List.length_cons, show k + (r.length + 1) = k + 1 + r.length by omega]; exact q3⟩
    unfold lcLoop
    rw [hb]
    cases o with
    | none => simpa using q1
    | some y =>
      have : acc.length < sizeLine := by omega
      simp only [this, if_true]
      simpa using q1
theorem lc_inv {C : Cal} {own : List Nat} {t : Tg} {it : Itr} {c : Exo} {el : Ex} {e0 e1 : List (Option Cell)} {dl dl1 : Option Dl} {items : List D} (I : Nat → List D → Option Dl → Prop) (hi : evI C it ⟨e0, dl⟩ = .ok items ⟨e1, dl1⟩) (h0 : I 0 [] dl1) (hl : items.length ≤ sizeLine)
    (hs : ∀ i x acc dl, items[i]? = some x → I i acc dl → ∃ (r : Option D) (e' : List (Option Cell)) (dl' : Option Dl), lcBody own t (evC C c) (evE C el) x ⟨e1, dl⟩ = .ok r ⟨e', dl'⟩ ∧ wipeE e' own = wipeE e1 own ∧ I (i + 1) (acc ++ r.toList) dl') :
    ∃ ds dl', evE C (.lc own t it c el) ⟨e0, dl⟩ = .ok (.fr (.list ds)) ⟨e1, dl'⟩ ∧ I items.length ds dl' := by
  obtain ⟨ds, e', dl', q1, q2, q3⟩ := lc_loop (own := own) (t := t) (fc := evC C c) (fe := evE C el) (e0 := e1) I items [] e1 dl1 0 rfl h0 (by simpa using hl) (by simpa using hs)
  refine ⟨ds, dl', ?_, by simpa using q3⟩
  rw [E_lc, hi, bind_ok, q1, bind_ok]
  dsimp only
  rw [restE_of q2]
/-- one that changes nothing but makes a value of each item -/
theorem lc_map {C : Cal} {own : List Nat} {t : Tg} {it : Itr} {el : Ex} {e0 e1 : List (Option Cell)} {dl dl1 : Option Dl} {items : List D} (g : D → D) (hi : evI C it ⟨e0, dl⟩ = .ok items ⟨e1, dl1⟩) (hl : items.length ≤ sizeLine)
    (hs : ∀ x ∈ items, ∃ (e' : List (Option Cell)), lcBody own t (evC C .no) (evE C el) x ⟨e1, dl1⟩ = .ok (some (g x)) ⟨e', dl1⟩ ∧ wipeE e' own = wipeE e1 own) :
    evE C (.lc own t it .no el) ⟨e0, dl⟩ = .ok (.fr (.list (items.map g))) ⟨e1, dl1⟩ := by
  obtain ⟨ds, dl', q1, rfl, rfl⟩ := lc_inv (fun i acc d => acc = (items.take i).map g ∧ d = dl1) hi ⟨rfl, rfl⟩ hl fun i x acc d hx ⟨h1, h2⟩ => by
    subst h1 h2
    have hm : x ∈ items := List.mem_of_getElem? hx
    obtain ⟨e', q1, q2⟩ := hs x hm
    refine ⟨some (g x), e', _, q1, q2, ?_, rfl⟩
    rw [List.take_add_one, hx]
    simp
  rw [q1, List.take_length]
/-! ## calls -/
theorem call_succ {T : Tab} {f : Str} {df : Def} {n : Nat} {args : List Cell} {dl : Option Dl} (h : T.fn f = some df) : call T (n + 1) f args dl = runDef ⟨call T n, T.tk, T.ex⟩ df args dl := by
  show (match T.fn f with
    | some df => runDef ⟨call T n, T.tk, T.ex⟩ df args dl
    | none => .stuck) = _
  rw [h]
/-- what a body gives back -/
def done (o : Out Fl) : CRes := match o with
  | .ok .nx s => .ret (.sh .none) s.dl
  | .ok (.ret rv) s => .ret rv s.dl
  | .exc c s => .exc c s.dl
  | _ => .stuck
theorem run_eq {C : Cal} {np nn : Nat} {b : Sms} {args : List Cell} {dl : Option Dl} (h : args.length = np) : runDef C ⟨np, nn, b⟩ args dl = done (evSs C b ⟨args.map some ++ List.replicate (nn - np) none, dl⟩) := by
  unfold runDef
  rw [if_pos h]
  rfl
theorem call_def {T : Tab} {f : Str} {df : Def} {n : Nat} {args : List Cell} {dl : Option Dl} (h : T.fn f = some df) (hl : args.length = df.np) : call T (n + 1) f args dl = done (evSs ⟨call T n, T.tk, T.ex⟩ df.body ⟨args.map some ++ List.replicate (df.nn - df.np) none, dl⟩) := by
  rw [call_succ h]
  exact run_eq hl
@[simp] theorem done_ret {rv : RV} {s : Sto} : done (.ok (.ret rv) s) = .ret rv s.dl := rfl
@[simp] theorem done_nx {s : Sto} : done (.ok .nx s) = .ret (.sh .none) s.dl := rfl
@[simp] theorem done_exc {c : Str} {s : Sto} : done (.exc c s) = .exc c s.dl := rfl
end WV
namespace WV
open PySem PySem.Spec PyProof.Rows L2
@[simp] theorem getq_0 {α : Type} {a : α} {l : List α} : (a :: l)[0]? = some a := List.getElem?_cons_zero
@[simp] theorem getq_s {α : Type} {a : α} {l : List α} {n : Nat} : (a :: l)[n + 1]? = l[n]? := List.getElem?_cons_succ
@[simp] theorem getq_n {α : Type} {n : Nat} : ([] : List α)[n]? = none := List.getElem?_nil
@[simp] theorem cmpG_inn : cmpG .inn = gIn := rfl
@[simp] theorem cmpG_nin : cmpG .nin = gNotIn := rfl
@[simp] theorem cmpG_is : cmpG .is = gIs := rfl
@[simp] theorem cmpG_isn : cmpG .isn = gIsNot := rfl
@[simp] theorem gIs_n {d : D} : gIs d .none = some (.sh (.bool (isNonD d))) := rfl
@[simp] theorem gIsNot_n {d : D} : gIsNot d .none = some (.sh (.bool (!isNonD d))) := rfl
@[simp] theorem gIs_b {a b : Bool} : gIs (.bool a) (.bool b) = some (.sh (.bool (decide (a = b)))) := rfl
@[simp] theorem gIsNot_b {a b : Bool} : gIsNot (.bool a) (.bool b) = some (.sh (.bool (!decide (a = b)))) := rfl
@[simp] theorem negG_int {i : Int} : negG (.int i) = some (.sh (.int (-i))) := rfl
@[simp] theorem revG_l {ds : List D} : revG (.list ds) = some (.fr (.list ds.reverse)) := rfl
@[simp] theorem revG_t {ds : List D} : revG (.tuple ds) = some (.sh (.tuple ds.reverse)) := rfl
@[simp] theorem biG_lstl {ds : List D} : biG .lst (.list ds) = some (.fr (.list ds)) := rfl
@[simp] theorem biG_lstt {ds : List D} : biG .lst (.tuple ds) = some (.fr (.list ds)) := rfl
theorem binG_addE : binG .add = gAdd := rfl
@[simp] theorem binG_add_t {xs ys : List D} : binG .add (.tuple xs) (.tuple ys) = gAdd (.tuple xs) (.tuple ys) := rfl
@[simp] theorem binG_add_l {xs ys : List D} : binG .add (.list xs) (.list ys) = gAdd (.list xs) (.list ys) := rfl
theorem binG_mulE : binG .mul = gMul := rfl
@[simp] theorem slcG_t {ds : List D} {l h : Option Int} : slcG l h (.tuple ds) = some (.sh (.tuple (cutD ds l h))) := rfl
@[simp] theorem slcG_l {ds : List D} {l h : Option Int} : slcG l h (.list ds) = some (.fr (.list (cutD ds l h))) := rfl
theorem cutD_len (xs : List D) (l h : Option Int) : (cutD xs l h).length ≤ xs.length := by
  unfold cutD
  rw [List.length_take, List.length_drop]
  omega
theorem add_t {xs ys : List D} (h : xs.length + ys.length ≤ 16777216) : gAdd (.tuple xs) (.tuple ys) = some (.sh (.tuple (xs ++ ys))) := by
  show (if xs.length + ys.length ≤ sizeLine then some (RV.sh (.tuple (xs ++ ys))) else none) = _
  rw [if_pos (by rw [sz]; exact h)]
theorem add_l {xs ys : List D} (h : xs.length + ys.length ≤ 16777216) : gAdd (.list xs) (.list ys) = some (.fr (.list (xs ++ ys))) := by
  show (if xs.length + ys.length ≤ sizeLine then some (RV.fr (.list (xs ++ ys))) else none) = _
  rw [if_pos (by rw [sz]; exact h)]
theorem gIx_lN {ds : List D} {k : Nat} {d : D} (h : ds[k]? = some d) : gIx (.list ds) (.int (k : Int)) = some (.sh d) := by
  have hk : k < ds.length := (List.getElem?_eq_some_iff.mp h).1
  show ((atI ds (k : Int)).map RV.sh) = _
  unfold atI
  rw [ixN_pos hk]
  show (ds[k]?).map RV.sh = _
  rw [h]
  rfl
theorem gIx_tN {ds : List D} {k : Nat} {d : D} (h : ds[k]? = some d) : gIx (.tuple ds) (.int (k : Int)) = some (.sh d) := gIx_lN h
@[simp] theorem gIx_l0 {a : D} {r : List D} : gIx (.list (a :: r)) (.int 0) = some (.sh a) := gIx_lN (k := 0) rfl
@[simp] theorem gIx_t0 {a : D} {r : List D} : gIx (.tuple (a :: r)) (.int 0) = some (.sh a) := gIx_tN (k := 0) rfl
@[simp] theorem gIx_l1 {a b : D} {r : List D} : gIx (.list (a :: b :: r)) (.int 1) = some (.sh b) := gIx_lN (k := 1) rfl
@[simp] theorem gIx_t1 {a b : D} {r : List D} : gIx (.tuple (a :: b :: r)) (.int 1) = some (.sh b) := gIx_tN (k := 1) rfl
@[simp] theorem gIx_t2 {a b c : D} {r : List D} : gIx (.tuple (a :: b :: c :: r)) (.int 2) = some (.sh c) := gIx_tN (k := 2) rfl
@[simp] theorem gIx_t3 {a b c d : D} {r : List D} : gIx (.tuple (a :: b :: c :: d :: r)) (.int 3) = some (.sh d) := gIx_tN (k := 3) rfl
theorem ixN_neg1 {n : Nat} (h : 0 < n) : ixN n (-1) = some (n - 1) := by
  unfold ixN
  have h1 : (-(n : Int) ≤ -1) ∧ ((-1 : Int) < n) := by omega
  simp [h1]
  omega
theorem gIx_last {ds : List D} (h : ds ≠ []) : gIx (.list ds) (.int (-1)) = some (.sh (ds.getLast h)) := by
  have hl : 0 < ds.length := List.length_pos_iff.mpr h
  show ((atI ds (-1 : Int)).map RV.sh) = _
  unfold atI
  rw [ixN_neg1 hl]
  simp [List.getLast_eq_getElem]
/-! ### the first of some statements -/
def takeS : Nat → Sms → Sms
  | 0, _ => .nil
  | _ + 1, .nil => .nil
  | n + 1, .cons a r => .cons a (takeS n r)
def dropS : Nat → Sms → Sms
  | 0, r => r
  | _ + 1, .nil => .nil
  | n + 1, .cons _ r => dropS n r
theorem bind_next {C : Cal} {o : Out Fl} {a b : Sto → Out Fl} : (o.bind (nextOr a)).bind (nextOr b) = o.bind (nextOr fun s => (a s).bind (nextOr b)) := by
  cases o with
  | stuck => rfl
  | exc c s => rfl
  | ok f s => cases f <;> rfl
theorem Ss_split {C : Cal} : ∀ (n : Nat) (c : Sms) (s : Sto), evSs C c s = (evSs C (takeS n c) s).bind (nextOr (evSs C (dropS n c)))
  | 0, c, s => rfl
  | n + 1, .nil, s => rfl
  | n + 1, .cons a r, s => by
    show evSs C (.cons a r) s = (evSs C (.cons a (takeS n r)) s).bind (nextOr (evSs C (dropS n r)))
    rw [Ss_cons, Ss_cons, bind_next (C := C)]
    congr 1
    funext f s'
    cases f <;> first | rfl | exact Ss_split n r s'
end WV
namespace LA
open PySem PySem.Spec PyProof.Rows L2 WV
/-! ## what the program's small defs do, in any table -/
abbrev cal (T : Tab) (n : Nat) : Cal := ⟨call T n, T.tk, T.ex⟩
@[simp] theorem cal_fn (T : Tab) (n : Nat) : (cal T n).fn = call T n := rfl
@[simp] theorem cal_ex (T : Tab) (n : Nat) : (cal T n).ex = T.ex := rfl
def isIntD : D → Bool
  | .int _ => true
  | _ => false
def wi (lo hi : Int) : D → Bool
  | .int i => decide (lo ≤ i) && decide (i ≤ hi)
  | _ => false
def rowB (a b : Int) : D → Bool
  | .tuple ds => decide (a ≤ ds.length) && decide ((ds.length : Int) ≤ b)
  | _ => false
theorem wi_int {lo hi : Int} {d : D} (h : wi lo hi d = true) : ∃ i : Int, d = .int i ∧ lo ≤ i ∧ i ≤ hi := by
  cases d <;> simp [wi] at h
  exact ⟨_, rfl, h⟩
theorem bools_mapB (f : D → Bool) : ∀ ds : List D, bools (ds.map fun d => .bool (f d)) = some (ds.map f)
  | [] => rfl
  | d :: ds => by simp [bools, bools_mapB f ds]
def c_is_int : Sms := (.cons (.ret (.and (.isi (.v 0) .int) (.not (.isi (.v 0) .bool)))) .nil)
def c_within : Sms := (.cons (.ret (.and (.call "is_int" (.cons (.v 0) .nil)) (.chn .le .le (.v 1) (.v 0) (.v 2)))) .nil)
def c_is_row : Sms := (.cons (.ret (.and (.isi (.v 0) .tuple) (.chn .le .le (.v 1) (.bi .len (.v 0)) (.v 2)))) .nil)
def c_law_int : Sms := (.cons (.ret (.and (.isi (.v 0) .int) (.and (.not (.isi (.v 0) .bool)) (.chn .le .le (.v 1) (.v 0) (.v 2))))) .nil)
def c_is_frame_of : Sms := (.cons (.iff (.or (.not (.call "is_row" (.cons (.v 0) (.cons (.lit (.int 1)) (.cons (.gl "MOST_CELLS" (.int 3)) .nil))))) (.not (.bi .all (.lc [1] (.nm 1) (.seq (.v 0)) .no (.call "within" (.cons (.v 1) (.cons (.lit (.int 2)) (.cons (.gl "MOST_VALUES" (.int 4)) .nil)))))))) (.cons (.ret (.lit (.bool false))) .nil) .nil) (.cons (.asg 2 (.lit (.int 1))) (.cons (.forr (.nm 1) (.seq (.v 0)) (.cons (.aug 2 .mul (.v 1)) .nil)) (.cons (.ret (.cmp .le (.v 2) (.gl "MOST_STATES" (.int 9)))) .nil))))
def c_need_frame : Sms := (.cons (.iff (.not (.call "is_frame_of" (.cons (.v 0) .nil))) (.cons (.rse "BadFrame") .nil) .nil) .nil)
def c_take : Sms := (.cons (.dcel 2 0) (.cons (.dset 0 2 (.bin .add (.dget 0 2) (.lit (.int 1)))) (.cons (.iff (.and (.cmp .lt (.dget 0 0) (.bin .pow (.lit (.int 10)) (.lit (.int 5)))) (.cmp .ne (.v 2) (.lst .nil))) (.cons (.asg 3 (.dpop 2)) (.cons (.dset 0 0 (.ife (.cmp .ge (.v 3) (.bin .pow (.lit (.int 10)) (.lit (.int 18)))) (.v 3) (.lit (.int 0)))) (.cons (.dset 0 1 (.bin .mod (.bi .int (.bin .add (.bin .add (.bin .mul (.dget 0 1) (.lit (.int 48271))) (.bin .mul (.bin .mod (.bi .int (.v 3)) (.lit (.int 2147483629))) (.lit (.int 69621)))) (.bin .mul (.lit (.int 13)) (.dget 0 2)))) (.lit (.int 2147483647)))) .nil))) .nil) (.cons (.iff (.cmp .ge (.dget 0 0) (.bin .pow (.lit (.int 10)) (.lit (.int 5)))) (.cons (.asg 4 (.bin .mod (.bi .int (.dget 0 0)) (.v 1))) (.cons (.dset 0 0 (.bin .div (.dget 0 0) (.v 1))) (.cons (.ret (.v 4)) .nil))) .nil) (.cons (.dset 0 1 (.bin .mod (.bi .int (.bin .add (.bin .add (.bin .mul (.dget 0 1) (.lit (.int 39373))) (.bin .mul (.lit (.int 7919)) (.dget 0 2))) (.lit (.int 5)))) (.lit (.int 2147483647)))) (.cons (.asg 5 (.bin .mod (.bi .int (.bin .add (.bin .add (.bin .mul (.dget 0 1) (.lit (.int 40692))) (.bin .mul (.bin .mul (.dget 0 2) (.dget 0 2)) (.lit (.int 271)))) (.lit (.int 3)))) (.lit (.int 2147483399)))) (.cons (.ret (.bin .mod (.bi .int (.bin .div (.v 5) (.lit (.int 32)))) (.v 1))) .nil)))))))
section
variable {T : Tab}
theorem p_is_int (f1 : T.fn "is_int" = some ⟨1, 1, c_is_int⟩) (n : Nat) (d : D) (dl : Option Dl) : call T (n + 1) "is_int" [.sh d] dl = .ret (.sh (.bool (isIntD d))) dl := by
  rw [call_def f1 rfl]
  show done (evSs (cal T n) c_is_int ⟨[some (.sh d)], dl⟩) = _
  cases d <;> simp [c_is_int, isTy, isIntD]
theorem p_within (f1 : T.fn "is_int" = some ⟨1, 1, c_is_int⟩) (f2 : T.fn "within" = some ⟨3, 3, c_within⟩) (n : Nat) (d : D) (lo hi : Int) (dl : Option Dl) : call T (n + 2) "within" [.sh d, .sh (.int lo), .sh (.int hi)] dl = .ret (.sh (.bool (wi lo hi d))) dl := by
  rw [call_def f2 rfl]
  show done (evSs (cal T (n + 1)) c_within ⟨[some (.sh d), some (.sh (.int lo)), some (.sh (.int hi))], dl⟩) = _
  cases d <;> simp [c_within, p_is_int f1, isIntD, wi]
  rename_i i
  by_cases h : lo ≤ i <;> simp [h]
theorem p_is_row (f1 : T.fn "is_row" = some ⟨3, 3, c_is_row⟩) (n : Nat) (d : D) (lo hi : Int) (dl : Option Dl) : call T (n + 1) "is_row" [.sh d, .sh (.int lo), .sh (.int hi)] dl = .ret (.sh (.bool (rowB lo hi d))) dl := by
  rw [call_def f1 rfl]
  show done (evSs (cal T n) c_is_row ⟨[some (.sh d), some (.sh (.int lo)), some (.sh (.int hi))], dl⟩) = _
  cases d <;> simp [c_is_row, isTy, rowB]
  rename_i ds
  by_cases h : lo ≤ ds.length <;> simp [h]
theorem p_law_int (f1 : T.fn "_law_int" = some ⟨3, 3, c_law_int⟩) (n : Nat) (d : D) (lo hi : Int) (dl : Option Dl) : call T (n + 1) "_law_int" [.sh d, .sh (.int lo), .sh (.int hi)] dl = .ret (.sh (.bool (wi lo hi d))) dl := by
  rw [call_def f1 rfl]
  show done (evSs (cal T n) c_law_int ⟨[some (.sh d), some (.sh (.int lo)), some (.sh (.int hi))], dl⟩) = _
  cases d <;> simp [c_law_int, isTy, wi]
  rename_i i
  by_cases h : lo ≤ i <;> simp [h]
/-! ### frames -/
def prodD : List D → Int
  | [] => 1
  | .int i :: r => i * prodD r
  | _ :: r => prodD r
def isFr : D → Bool
  | .tuple ds => decide (1 ≤ ds.length) && (decide (ds.length ≤ 3) && (ds.all (wi 2 4) && decide (prodD ds ≤ 9)))
  | _ => false
theorem all_lc (f1 : T.fn "is_int" = some ⟨1, 1, c_is_int⟩) (f2 : T.fn "within" = some ⟨3, 3, c_within⟩) (n : Nat) (ds : List D) (e1 e2 : Option Cell) (dl : Option Dl) (hl : ds.length ≤ 100) : evE (cal T (n + 2)) (.lc [1] (.nm 1) (.seq (.v 0)) .no (.call "within" (.cons (.v 1) (.cons (.lit (.int 2)) (.cons (.gl "MOST_VALUES" (.int 4)) .nil))))) ⟨[some (.sh (.tuple ds)), e1, e2], dl⟩ =
    .ok (.fr (.list (ds.map fun d => .bool (wi 2 4 d)))) ⟨[some (.sh (.tuple ds)), e1, e2], dl⟩ := by
  refine lc_map (items := ds) (fun d => .bool (wi 2 4 d)) (by simp [seqItems]) (by simp; omega) fun x _ => ⟨[some (.sh (.tuple ds)), some (.sh x), e2], ?_, by simp [wipeE]⟩
  simp [lcBody, bindT, wipeE, p_within f1 f2]
theorem many_loop (C : Cal) (st : Sm) (hst : ∀ (e0 : Option Cell) (i m : Int) (dl : Option Dl), 2 ≤ i → i ≤ 4 → evS C st ⟨[e0, some (.sh (.int i)), some (.sh (.int m))], dl⟩ = .ok .nx ⟨[e0, some (.sh (.int i)), some (.sh (.int (m * i)))], dl⟩) (e0 : Option Cell) (dl : Option Dl) :
    ∀ (ds : List D) (e1 : Option Cell) (m : Int), ds.all (wi 2 4) = true → ∃ e1', forLoop (forBody (.nm 1) (evSs C (.cons st .nil))) ds ⟨[e0, e1, some (.sh (.int m))], dl⟩ = .ok .nx ⟨[e0, e1', some (.sh (.int (m * prodD ds)))], dl⟩
  | [], e1, m, _ => ⟨e1, by simp [forLoop, prodD]⟩
  | d :: ds, e1, m, h => by
    have h' : wi 2 4 d = true ∧ ds.all (wi 2 4) = true := by simpa using h
    obtain ⟨i, rfl, h1, h2⟩ := wi_int h'.1
    obtain ⟨e1', e⟩ := many_loop C st hst e0 dl ds (some (.sh (.int i))) (m * i) h'.2
    refine ⟨e1', ?_⟩
    unfold forLoop
    simp only [forBody, bindT, setS, List.set_cons_succ, List.set_cons_zero, Ss_cons, hst e0 i m dl h1 h2, bind_ok, n_nx, Ss_nil]
    rw [e]
    simp [prodD, Int.mul_assoc]
theorem aug_step (C : Cal) (e0 : Option Cell) (i m : Int) (dl : Option Dl) (h1 : 2 ≤ i) (h2 : i ≤ 4) : evS C (.aug 2 .mul (.v 1)) ⟨[e0, some (.sh (.int i)), some (.sh (.int m))], dl⟩ = .ok .nx ⟨[e0, some (.sh (.int i)), some (.sh (.int (m * i)))], dl⟩ := by
  have e : binG .mul (.int m) (.int i) = _ := mulR (by omega) (by omega)
  simp [e]
theorem p_is_frame_of (f1 : T.fn "is_int" = some ⟨1, 1, c_is_int⟩) (f2 : T.fn "within" = some ⟨3, 3, c_within⟩) (f3 : T.fn "is_row" = some ⟨3, 3, c_is_row⟩) (f4 : T.fn "is_frame_of" = some ⟨1, 3, c_is_frame_of⟩) (n : Nat) (d : D) (dl : Option Dl) : call T (n + 3) "is_frame_of" [.sh d] dl = .ret (.sh (.bool (isFr d))) dl := by
  rw [call_def f4 rfl]
  show done (evSs (cal T (n + 2)) c_is_frame_of ⟨[some (.sh d), none, none], dl⟩) = _
  cases d <;> try (simp [c_is_frame_of, p_is_row f3, rowB, isFr]; done)
  rename_i ds
  by_cases h1 : 1 ≤ ds.length ∧ ds.length ≤ 3
  · have h1' : (1 : Int) ≤ ds.length ∧ (ds.length : Int) ≤ 3 := by omega
    have e := all_lc f1 f2 n ds none none dl (by omega)
    by_cases h2 : ds.all (wi 2 4) = true
    · have h2' : (ds.map (wi 2 4)).all id = true := by simpa using h2
      obtain ⟨e1', el⟩ := many_loop (cal T (n + 2)) (.aug 2 .mul (.v 1)) (aug_step (cal T (n + 2))) (some (.sh (.tuple ds))) dl ds none 1 h2
      simp only [c_is_frame_of, Ss_cons, S_iff, T_or, T_not, T_call, E_call, A_cons, A_nil, E_v, E_lit, E_gl, isDeal_eq2, List.getElem?_cons_zero, bind_ok, cal_fn, p_is_row f3, rowB, opd_call, dat_sh, get_dat, Option.bind_some, truD_bool, outO_so, h1', decide_true, Bool.and_self, Bool.not_true, T_bi, E_bi, opd_lc, e, opd_bi, lift1_eq, dat_fr, biG, bools_mapB, Option.map_some, h2', Bool.false_eq_true, if_false, Ss_nil, n_nx, S_asg, cell_sh, setS, List.set_cons_succ, List.set_cons_zero, S_for, I_seq, seqItems, el]
      simp [isFr, h1, h2]
    · have h2' : (ds.map (wi 2 4)).all id = false := by simpa using h2
      have h2'' : ds.all (wi 2 4) = false := by simpa using h2
      simp only [c_is_frame_of, Ss_cons, S_iff, T_or, T_not, T_call, E_call, A_cons, A_nil, E_v, E_lit, E_gl, isDeal_eq2, List.getElem?_cons_zero, bind_ok, cal_fn, p_is_row f3, rowB, opd_call, dat_sh, get_dat, Option.bind_some, truD_bool, outO_so, h1', decide_true, Bool.and_self, Bool.not_true, T_bi, E_bi, opd_lc, e, opd_bi, lift1_eq, dat_fr, biG, bools_mapB, Option.map_some, h2', Bool.false_eq_true, if_false, Ss_nil, n_nx]
      simp [isFr, h1, h2'']
  · have h1' : (decide ((1 : Int) ≤ ds.length) && decide ((ds.length : Int) ≤ 3)) = false := by
      simp
      omega
    have h1'' : isFr (.tuple ds) = false := by
      simp [isFr]
      intro a b
      omega
    simp only [c_is_frame_of, Ss_cons, S_iff, T_or, T_not, T_call, E_call, A_cons, A_nil, E_v, E_lit, E_gl, isDeal_eq2, List.getElem?_cons_zero, bind_ok, cal_fn, p_is_row f3, rowB, opd_call, dat_sh, get_dat, Option.bind_some, truD_bool, outO_so, h1', h1'']
    simp
theorem p_need_frame (f1 : T.fn "is_int" = some ⟨1, 1, c_is_int⟩) (f2 : T.fn "within" = some ⟨3, 3, c_within⟩) (f3 : T.fn "is_row" = some ⟨3, 3, c_is_row⟩) (f4 : T.fn "is_frame_of" = some ⟨1, 3, c_is_frame_of⟩) (f5 : T.fn "need_frame" = some ⟨1, 1, c_need_frame⟩) (n : Nat) (d : D) (dl : Option Dl) : call T (n + 4) "need_frame" [.sh d] dl = if isFr d then .ret (.sh .none) dl else .exc "BadFrame" dl := by
  rw [call_def f5 rfl]
  show done (evSs (cal T (n + 3)) c_need_frame ⟨[some (.sh d)], dl⟩) = _
  cases h : isFr d <;> simp [c_need_frame, p_is_frame_of f1 f2 f3 f4, h]
def frames : List D := [.tuple [.int 2], .tuple [.int 3], .tuple [.int 4], .tuple [.int 2, .int 2], .tuple [.int 2, .int 3], .tuple [.int 2, .int 4], .tuple [.int 3, .int 2], .tuple [.int 3, .int 3], .tuple [.int 4, .int 2], .tuple [.int 2, .int 2, .int 2]]
theorem fr_list (d : D) (h : isFr d = true) : d ∈ frames := by
  cases d <;> try (cases h; done)
  rename_i ds
  simp only [isFr, Bool.and_eq_true, decide_eq_true_eq] at h
  obtain ⟨h1, h2, h3, h4⟩ := h
  unfold frames
  match ds, h1, h2, h3, h4 with
  | [a], _, _, h3, _ =>
    obtain ⟨i, rfl, q1, q2⟩ := wi_int (d := a) (by simpa using h3)
    have : i = 2 ∨ i = 3 ∨ i = 4 := by omega
    rcases this with rfl | rfl | rfl <;> simp
  | [a, b], _, _, h3, h4 =>
    have h3' : wi 2 4 a = true ∧ wi 2 4 b = true := by simpa using h3
    obtain ⟨i, rfl, q1, q2⟩ := wi_int h3'.1
    obtain ⟨j, rfl, q3, q4⟩ := wi_int h3'.2
    have hi : i = 2 ∨ i = 3 ∨ i = 4 := by omega
    have hj : j = 2 ∨ j = 3 ∨ j = 4 := by omega
    rcases hi with rfl | rfl | rfl <;> rcases hj with rfl | rfl | rfl <;> simp [prodD] at h4 ⊢
  | [a, b, c], _, _, h3, h4 =>
    have h3' : wi 2 4 a = true ∧ wi 2 4 b = true ∧ wi 2 4 c = true := by simpa using h3
    obtain ⟨i, rfl, q1, q2⟩ := wi_int h3'.1
    obtain ⟨j, rfl, q3, q4⟩ := wi_int h3'.2.1
    obtain ⟨k, rfl, q5, q6⟩ := wi_int h3'.2.2
    have hi : i = 2 ∨ i = 3 ∨ i = 4 := by omega
    have hj : j = 2 ∨ j = 3 ∨ j = 4 := by omega
    have hk : k = 2 ∨ k = 3 ∨ k = 4 := by omega
    rcases hi with rfl | rfl | rfl <;> rcases hj with rfl | rfl | rfl <;> rcases hk with rfl | rfl | rfl <;> simp [prodD] at h4 ⊢
/-! ### drawing, with a count -/
theorem p_take0 (f1 : T.fn "_law_take" = some ⟨2, 6, c_take⟩) (n : Nat) (cs : List Int) (p s c m : Int) (h1 : 0 < m) (h2 : m < 1073741824) (h3 : 0 ≤ c) (h4 : c < 2 ^ 60) :
    ∃ (k : Int) (cs' : List Int) (p' s' : Int), call T (n + 1) "_law_take" [.deal, .sh (.int m)] (some ⟨cs, [p, s, c]⟩) = .ret (.sh (.int k)) (some ⟨cs', [p', s', c + 1]⟩) ∧ 0 ≤ k ∧ k < m := by
  rw [call_def f1 rfl]
  show ∃ (k : Int) (cs' : List Int) (p' s' : Int), done (evSs (cal T n) c_take ⟨[some .deal, some (.sh (.int m)), none, none, none, none], some ⟨cs, [p, s, c]⟩⟩) = _ ∧ _
  have a1 : ∀ x : Int, binG .mul (.int x) (.int 48271) = _ := fun x => mulR (by decide) (by decide)
  have a2 : ∀ x : Int, binG .mul (.int x) (.int 69621) = _ := fun x => mulR (by decide) (by decide)
  have a3 : ∀ x : Int, binG .mul (.int 13) (.int x) = _ := fun x => mulL (by decide) (by decide)
  have a4 : ∀ x : Int, binG .mul (.int x) (.int 39373) = _ := fun x => mulR (by decide) (by decide)
  have a5 : ∀ x : Int, binG .mul (.int 7919) (.int x) = _ := fun x => mulL (by decide) (by decide)
  have a6 : ∀ x : Int, binG .mul (.int x) (.int 40692) = _ := fun x => mulR (by decide) (by decide)
  have a7 : ∀ x : Int, binG .mul (.int x) (.int 271) = _ := fun x => mulR (by decide) (by decide)
  have a8 : binG .mul (.int (c + 1)) (.int (c + 1)) = _ := mulR (by omega) (by omega)
  have b1 : ∀ x : Int, binG .mod (.int x) (.int 2147483629) = _ := fun x => modP (by decide)
  have b2 : ∀ x : Int, binG .mod (.int x) (.int 2147483647) = _ := fun x => modP (by decide)
  have b3 : ∀ x : Int, binG .mod (.int x) (.int 2147483399) = _ := fun x => modP (by decide)
  have b4 : ∀ x : Int, binG .mod (.int x) (.int m) = _ := fun x => modP h1
  have b5 : ∀ x : Int, binG .div (.int x) (.int m) = _ := fun x => divP h1 h2
  have b6 : ∀ x : Int, binG .div (.int x) (.int 32) = _ := fun x => divP (by decide) (by decide)
  have fin : ∀ x : Int, 0 ≤ x % m ∧ x % m < m := fun x => ⟨Int.emod_nonneg x (by omega), Int.emod_lt_of_pos x h1⟩
  have key : ∀ (cs1 : List Int) (p1 s1 : Int) (sl : Option Cell), ∃ (k : Int) (cs' : List Int) (p' s' : Int), done (evSs (cal T n) (.cons (.iff (.cmp .ge (.dget 0 0) (.bin .pow (.lit (.int 10)) (.lit (.int 5)))) (.cons (.asg 4 (.bin .mod (.bi .int (.dget 0 0)) (.v 1))) (.cons (.dset 0 0 (.bin .div (.dget 0 0) (.v 1))) (.cons (.ret (.v 4)) .nil))) .nil) (.cons (.dset 0 1 (.bin .mod (.bi .int (.bin .add (.bin .add (.bin .mul (.dget 0 1) (.lit (.int 39373))) (.bin .mul (.lit (.int 7919)) (.dget 0 2))) (.lit (.int 5)))) (.lit (.int 2147483647)))) (.cons (.asg 5 (.bin .mod (.bi .int (.bin .add (.bin .add (.bin .mul (.dget 0 1) (.lit (.int 40692))) (.bin .mul (.bin .mul (.dget 0 2) (.dget 0 2)) (.lit (.int 271)))) (.lit (.int 3)))) (.lit (.int 2147483399)))) (.cons (.ret (.bin .mod (.bi .int (.bin .div (.v 5) (.lit (.int 32)))) (.v 1))) .nil)))) ⟨[some .deal, some (.sh (.int m)), some .dcl, sl, none, none], some ⟨cs1, [p1, s1, c + 1]⟩⟩) = .ret (.sh (.int k)) (some ⟨cs', [p', s', c + 1]⟩) ∧ 0 ≤ k ∧ k < m := by
    intro cs1 p1 s1 sl
    by_cases q : (100000 : Int) ≤ p1
    · refine ⟨p1 % m, cs1, p1 / m, s1, ?_, fin _⟩
      simp [q, b4, b5]
    · refine ⟨((((s1 * 39373 + 7919 * (c + 1) + 5) % 2147483647) * 40692 + (c + 1) * (c + 1) * 271 + 3) % 2147483399) / 32 % m, cs1, p1, (s1 * 39373 + 7919 * (c + 1) + 5) % 2147483647, ?_, fin _⟩
      simp [q, b1, b2, b3, b4, b5, b6, a4, a5, a6, a7, a8]
  have pre : ∀ tl : Sms, ∃ (cs1 : List Int) (p1 s1 : Int) (sl : Option Cell), evSs (cal T n) (.cons (.dcel 2 0) (.cons (.dset 0 2 (.bin .add (.dget 0 2) (.lit (.int 1)))) (.cons (.iff (.and (.cmp .lt (.dget 0 0) (.bin .pow (.lit (.int 10)) (.lit (.int 5)))) (.cmp .ne (.v 2) (.lst .nil))) (.cons (.asg 3 (.dpop 2)) (.cons (.dset 0 0 (.ife (.cmp .ge (.v 3) (.bin .pow (.lit (.int 10)) (.lit (.int 18)))) (.v 3) (.lit (.int 0)))) (.cons (.dset 0 1 (.bin .mod (.bi .int (.bin .add (.bin .add (.bin .mul (.dget 0 1) (.lit (.int 48271))) (.bin .mul (.bin .mod (.bi .int (.v 3)) (.lit (.int 2147483629))) (.lit (.int 69621)))) (.bin .mul (.lit (.int 13)) (.dget 0 2)))) (.lit (.int 2147483647)))) .nil))) .nil) tl)))
      ⟨[some .deal, some (.sh (.int m)), none, none, none, none], some ⟨cs, [p, s, c]⟩⟩ = evSs (cal T n) tl ⟨[some .deal, some (.sh (.int m)), some .dcl, sl, none, none], some ⟨cs1, [p1, s1, c + 1]⟩⟩ := by
    intro tl
    by_cases q : p < 100000
    · cases cs with
      | nil =>
        have g := gNe_ints (l := [])
        exact ⟨[], p, s, none, by simp at g; simp [q, g]⟩
      | cons x cs =>
        have g := gNe_ints (l := x :: cs)
        by_cases q2 : (1000000000000000000 : Int) ≤ x
        · exact ⟨cs, x, (s * 48271 + x % 2147483629 * 69621 + 13 * (c + 1)) % 2147483647, some (.sh (.int x)), by simp at g; simp [q, q2, g, a1, a2, a3, b1, b2]⟩
        · exact ⟨cs, 0, (s * 48271 + x % 2147483629 * 69621 + 13 * (c + 1)) % 2147483647, some (.sh (.int x)), by simp at g; simp [q, q2, g, a1, a2, a3, b1, b2]⟩
    · exact ⟨cs, p, s, none, by simp [q]⟩
  obtain ⟨cs1, p1, s1, sl, e⟩ := pre (.cons (.iff (.cmp .ge (.dget 0 0) (.bin .pow (.lit (.int 10)) (.lit (.int 5)))) (.cons (.asg 4 (.bin .mod (.bi .int (.dget 0 0)) (.v 1))) (.cons (.dset 0 0 (.bin .div (.dget 0 0) (.v 1))) (.cons (.ret (.v 4)) .nil))) .nil) (.cons (.dset 0 1 (.bin .mod (.bi .int (.bin .add (.bin .add (.bin .mul (.dget 0 1) (.lit (.int 39373))) (.bin .mul (.lit (.int 7919)) (.dget 0 2))) (.lit (.int 5)))) (.lit (.int 2147483647)))) (.cons (.asg 5 (.bin .mod (.bi .int (.bin .add (.bin .add (.bin .mul (.dget 0 1) (.lit (.int 40692))) (.bin .mul (.bin .mul (.dget 0 2) (.dget 0 2)) (.lit (.int 271)))) (.lit (.int 3)))) (.lit (.int 2147483399)))) (.cons (.ret (.bin .mod (.bi .int (.bin .div (.v 5) (.lit (.int 32)))) (.v 1))) .nil))))
  have e' : evSs (cal T n) c_take ⟨[some .deal, some (.sh (.int m)), none, none, none, none], some ⟨cs, [p, s, c]⟩⟩ = _ := e
  rw [e']
  exact key cs1 p1 s1 sl
def Dk (dl : Option Dl) (b : Int) : Prop := ∃ (cs : List Int) (p s c : Int), dl = some ⟨cs, [p, s, c]⟩ ∧ 0 ≤ c ∧ c ≤ b
theorem Dk.mono {dl : Option Dl} {b b' : Int} (h : Dk dl b) (hb : b ≤ b') : Dk dl b' := by
  obtain ⟨cs, p, s, c, e, h1, h2⟩ := h
  exact ⟨cs, p, s, c, e, h1, by omega⟩
theorem p_take (f1 : T.fn "_law_take" = some ⟨2, 6, c_take⟩) (n : Nat) (dl : Option Dl) (b m : Int) (h : Dk dl b) (hb : b < 2 ^ 60) (h1 : 0 < m) (h2 : m < 1073741824) : ∃ (k : Int) (dl' : Option Dl), call T (n + 1) "_law_take" [.deal, .sh (.int m)] dl = .ret (.sh (.int k)) dl' ∧ 0 ≤ k ∧ k < m ∧ Dk dl' (b + 1) := by
  obtain ⟨cs, p, s, c, rfl, q1, q2⟩ := h
  obtain ⟨k, cs', p', s', e, k1, k2⟩ := p_take0 f1 n cs p s c m h1 h2 q1 (by omega)
  exact ⟨k, _, e, k1, k2, cs', p', s', c + 1, rfl, by omega, by omega⟩
end
end LA
namespace LA
open PySem PySem.Spec PyProof.Rows L2 WV
/-! ## states, moments, relations, in any table -/
def isSt (ns : List Int) : D → Bool
  | .tuple ds => decide (ds.length = ns.length) && (ds.zip ns).all fun p => wi 0 (p.2 - 1) p.1
  | _ => false
def isMo (ns : List Int) : D → Bool
  | .tuple [a, b] => isSt ns a && isSt ns b
  | _ => false
def asc : List D → Bool
  | a :: b :: r => PySem.W.dataLt a b && asc (b :: r)
  | _ => true
def isRel (ns : List Int) : D → Bool
  | .tuple ds => ds.all (isMo ns) && asc ds
  | _ => false
abbrev frD (ns : List Int) : D := .tuple (ns.map PyData.int)
def c_is_state_of : Sms := (.cons (.iff (.not (.call "is_row" (.cons (.v 1) (.cons (.bi .len (.v 0)) (.cons (.bi .len (.v 0)) .nil))))) (.cons (.ret (.lit (.bool false))) .nil) .nil) (.cons (.ret (.bi .all (.lc [2, 3] (.tp [2, 3]) (.zip (.v 1) (.v 0)) .no (.call "within" (.cons (.v 2) (.cons (.lit (.int 0)) (.cons (.bin .sub (.v 3) (.lit (.int 1))) .nil))))))) .nil))
def c_is_moment_of : Sms := (.cons (.ret (.and (.call "is_row" (.cons (.v 1) (.cons (.lit (.int 2)) (.cons (.lit (.int 2)) .nil)))) (.and (.call "is_state_of" (.cons (.v 0) (.cons (.ix (.v 1) (.lit (.int 0))) .nil))) (.call "is_state_of" (.cons (.v 0) (.cons (.ix (.v 1) (.lit (.int 1))) .nil)))))) .nil)
def c_is_ascending : Sms := (.cons (.ret (.bi .all (.lc [1, 2] (.tp [1, 2]) (.zip (.v 0) (.slc (.v 0) (.so (.lit (.int 1))) .no)) .no (.cmp .lt (.v 1) (.v 2))))) .nil)
def c_is_relation_of : Sms := (.cons (.ret (.and (.isi (.v 1) .tuple) (.and (.bi .all (.lc [2] (.nm 2) (.seq (.v 1)) .no (.call "is_moment_of" (.cons (.v 0) (.cons (.v 2) .nil))))) (.call "is_ascending" (.cons (.v 1) .nil))))) .nil)
def c_law_is_state : Sms := (.cons (.iff (.or (.not (.isi (.v 1) .tuple)) (.cmp .ne (.bi .len (.v 1)) (.bi .len (.v 0)))) (.cons (.ret (.lit (.bool false))) .nil) .nil) (.cons (.ret (.bi .all (.lc [2] (.nm 2) (.rg1 (.bi .len (.v 0))) .no (.call "_law_int" (.cons (.ix (.v 1) (.v 2)) (.cons (.lit (.int 0)) (.cons (.bin .sub (.ix (.v 0) (.v 2)) (.lit (.int 1))) .nil))))))) .nil))
def c_law_is_relation : Sms := (.cons (.iff (.or (.not (.isi (.v 1) .tuple)) (.not (.bi .all (.lc [2] (.nm 2) (.seq (.v 1)) .no (.and (.isi (.v 2) .tuple) (.cmp .eq (.bi .len (.v 2)) (.lit (.int 2)))))))) (.cons (.ret (.lit (.bool false))) .nil) .nil) (.cons (.iff (.not (.bi .all (.lc [2] (.nm 2) (.seq (.v 1)) .no (.and (.call "_law_is_state" (.cons (.v 0) (.cons (.ix (.v 2) (.lit (.int 0))) .nil))) (.call "_law_is_state" (.cons (.v 0) (.cons (.ix (.v 2) (.lit (.int 1))) .nil))))))) (.cons (.ret (.lit (.bool false))) .nil) .nil) (.cons (.ret (.bi .all (.lc [3] (.nm 3) (.rg1 (.bin .sub (.bi .len (.v 1)) (.lit (.int 1)))) .no (.cmp .lt (.ix (.v 1) (.v 3)) (.ix (.v 1) (.bin .add (.v 3) (.lit (.int 1)))))))) .nil)))
/-- zip's pairs -/
theorem zipD_mem {ds : List D} {ns : List Int} {x : D} (h : x ∈ zipD ds (ns.map PyData.int)) : ∃ d i, x = .tuple [d, .int i] := by
  unfold zipD at h
  rw [List.mem_iff_getElem?] at h
  obtain ⟨k, hk⟩ := h
  rw [List.getElem?_zipWith] at hk
  rw [List.getElem?_map] at hk
  cases e1 : ds[k]? with
  | none => rw [e1] at hk; cases hk
  | some d =>
    rw [e1] at hk
    cases e2 : ns[k]? with
    | none => rw [e2] at hk; cases hk
    | some i =>
      rw [e2] at hk
      cases hk
      exact ⟨d, i, rfl⟩
def gSt : D → D
  | .tuple [d, .int s] => .bool (wi 0 (s - 1) d)
  | _ => .none
theorem zip_map : ∀ (ds : List D) (ns : List Int), (zipD ds (ns.map PyData.int)).map gSt = (ds.zip ns).map fun p => .bool (wi 0 (p.2 - 1) p.1)
  | [], _ => by simp [zipD]
  | _ :: _, [] => by simp [zipD]
  | d :: ds, i :: ns => by
    have ih := zip_map ds ns
    show gSt (.tuple [d, .int i]) :: (zipD ds (ns.map PyData.int)).map gSt = _
    rw [ih]
    rfl
theorem zipD_len (ds es : List D) : (zipD ds es).length = min ds.length es.length := by simp [zipD]
section
variable {T : Tab}
theorem p_is_state_of (f1 : T.fn "is_int" = some ⟨1, 1, c_is_int⟩) (f2 : T.fn "within" = some ⟨3, 3, c_within⟩) (f3 : T.fn "is_row" = some ⟨3, 3, c_is_row⟩) (f4 : T.fn "is_state_of" = some ⟨2, 4, c_is_state_of⟩) (n : Nat) (ns : List Int) (hn : ns.length ≤ 100) (d : D) (dl : Option Dl) :
    call T (n + 3) "is_state_of" [.sh (frD ns), .sh d] dl = .ret (.sh (.bool (isSt ns d))) dl := by
  rw [call_def f4 rfl]
  show done (evSs (cal T (n + 2)) c_is_state_of ⟨[some (.sh (frD ns)), some (.sh d), none, none], dl⟩) = _
  cases d <;> try (simp [c_is_state_of, p_is_row f3, rowB, isSt]; done)
  rename_i ds
  by_cases hl : ds.length = ns.length
  · have e : evE (cal T (n + 2)) (.lc [2, 3] (.tp [2, 3]) (.zip (.v 1) (.v 0)) .no (.call "within" (.cons (.v 2) (.cons (.lit (.int 0)) (.cons (.bin .sub (.v 3) (.lit (.int 1))) .nil))))) ⟨[some (.sh (frD ns)), some (.sh (.tuple ds)), none, none], dl⟩ = .ok (.fr (.list ((zipD ds (ns.map PyData.int)).map gSt))) ⟨[some (.sh (frD ns)), some (.sh (.tuple ds)), none, none], dl⟩ := by
      refine lc_map (items := zipD ds (ns.map PyData.int)) gSt (by simp [zipItems]) (by rw [zipD_len]; simp; omega) fun x hx => ?_
      obtain ⟨d, i, rfl⟩ := zipD_mem hx
      refine ⟨[some (.sh (frD ns)), some (.sh (.tuple ds)), some (.sh d), some (.sh (.int i))], ?_, by simp [wipeE]⟩
      simp [lcBody, bindT, wipeE, p_within f1 f2, gSt]
    rw [zip_map] at e
    have eb : bools ((ds.zip ns).map fun p => .bool (wi 0 (p.2 - 1) p.1)) = some ((ds.zip ns).map fun p => wi 0 (p.2 - 1) p.1) := by
      have : ∀ l : List (D × Int), bools (l.map fun p => .bool (wi 0 (p.2 - 1) p.1)) = some (l.map fun p => wi 0 (p.2 - 1) p.1) := fun l => by
        induction l with
        | nil => rfl
        | cons x r ih => simp [bools, ih]
      exact this _
    simp [c_is_state_of, p_is_row f3, rowB, hl, e, biG, eb, isSt]
  · have hl' : ¬ ((ns.length : Int) ≤ ds.length ∧ (ds.length : Int) ≤ ns.length) := by omega
    have e : (decide ((ns.length : Int) ≤ ds.length) && decide ((ds.length : Int) ≤ ns.length)) = false := by
      simpa using hl'
    have hlt : ds.length < ns.length ∨ ns.length < ds.length := by omega
    simp [c_is_state_of, p_is_row f3, rowB, hl, isSt, hlt]
theorem p_is_moment_of (f1 : T.fn "is_int" = some ⟨1, 1, c_is_int⟩) (f2 : T.fn "within" = some ⟨3, 3, c_within⟩) (f3 : T.fn "is_row" = some ⟨3, 3, c_is_row⟩) (f4 : T.fn "is_state_of" = some ⟨2, 4, c_is_state_of⟩) (f5 : T.fn "is_moment_of" = some ⟨2, 2, c_is_moment_of⟩) (n : Nat) (ns : List Int) (hn : ns.length ≤ 100) (d : D) (dl : Option Dl) :
    call T (n + 4) "is_moment_of" [.sh (frD ns), .sh d] dl = .ret (.sh (.bool (isMo ns d))) dl := by
  rw [call_def f5 rfl]
  show done (evSs (cal T (n + 3)) c_is_moment_of ⟨[some (.sh (frD ns)), some (.sh d)], dl⟩) = _
  cases d <;> try (simp [c_is_moment_of, p_is_row f3, rowB, isMo]; done)
  rename_i ds
  match ds with
  | [] => simp [c_is_moment_of, p_is_row f3, rowB, isMo]
  | [a] => simp [c_is_moment_of, p_is_row f3, rowB, isMo]
  | [a, b] =>
    have g0 : gIx (.tuple [a, b]) (.int 0) = some (.sh a) := rfl
    have g1 : gIx (.tuple [a, b]) (.int 1) = some (.sh b) := rfl
    cases h : isSt ns a <;> simp [c_is_moment_of, p_is_row f3, rowB, isMo, g0, g1, p_is_state_of f1 f2 f3 f4 n ns hn, h]
  | a :: b :: c :: r =>
    have : ¬ ((r.length : Int) + 1 + 1 + 1 ≤ 2) := by omega
    simp [c_is_moment_of, p_is_row f3, rowB, isMo, this]
/-! ### ascending -/
theorem shaped_ints2 (l : List Int) : SeqAt.shaped (.tuple (l.map PyData.int)) = true := by
  rw [depth_tl]
  exact shaped_ints l
theorem st_ints {ns : List Int} {d : D} (h : isSt ns d = true) : ∃ l : List Int, d = frD l ∧ l.length = ns.length := by
  cases d <;> try (cases h; done)
  rename_i ds
  simp only [isSt, Bool.and_eq_true, decide_eq_true_eq] at h
  obtain ⟨h1, h2⟩ := h
  induction ds generalizing ns with
  | nil => exact ⟨[], rfl, h1⟩
  | cons x r ih =>
    cases ns with
    | nil => cases h1
    | cons i ns =>
      simp only [List.zip_cons_cons, List.all_cons, Bool.and_eq_true] at h2
      obtain ⟨j, rfl, _, _⟩ := wi_int h2.1
      obtain ⟨l, e, hl⟩ := ih (by simpa using h1) h2.2
      injection e with e
      exact ⟨j :: l, by rw [e]; rfl, by simp [hl]⟩
theorem alike_ints : ∀ l m : List Int, PySem.W.alikeAll (l.map PyData.int) (m.map PyData.int) = true
  | [], _ => by simp [PySem.W.alikeAll]
  | _ :: _, [] => by simp [PySem.W.alikeAll]
  | a :: l, b :: m => by simp [PySem.W.alikeAll, PySem.W.alike, alike_ints l m]
theorem mo_lt {ns : List Int} {d e : D} (h1 : isMo ns d = true) (h2 : isMo ns e = true) : gLt d e = some (.sh (.bool (PySem.W.dataLt d e))) := by
  have key : ∀ {d : D}, isMo ns d = true → ∃ a b : List Int, d = .tuple [frD a, frD b] := fun {d} h => by
    unfold isMo at h
    split at h
    · simp only [Bool.and_eq_true] at h
      obtain ⟨a, rfl, _⟩ := st_ints h.1
      obtain ⟨b, rfl, _⟩ := st_ints h.2
      exact ⟨a, b, rfl⟩
    · cases h
  obtain ⟨a, b, rfl⟩ := key h1
  obtain ⟨a', b', rfl⟩ := key h2
  have sh : ∀ a b : List Int, SeqAt.shaped (.tuple [frD a, frD b]) = true := fun a b => by
    simp [SeqAt.shaped, PyData.canLay0, PyData.canLayAll0, PyData.depth, PyData.depthAll, lay_ints, depth_ints]
  have al : PySem.W.alike (.tuple [frD a, frD b]) (.tuple [frD a', frD b']) = true := by
    simp [PySem.W.alike, PySem.W.alikeAll, alike_ints]
  show (if PySem.W.alike (.tuple [frD a, frD b]) (.tuple [frD a', frD b']) && (!isNonD (.tuple [frD a, frD b])) && (SeqAt.shaped (.tuple [frD a, frD b]) && SeqAt.shaped (.tuple [frD a', frD b'])) then some (RV.sh (.bool (PySem.W.dataLt (.tuple [frD a, frD b]) (.tuple [frD a', frD b'])))) else none) = _
  rw [al, sh, sh]
  rfl
/-- consecutive pairs -/
def conB : List D → List Bool
  | a :: b :: r => PySem.W.dataLt a b :: conB (b :: r)
  | _ => []
theorem conB_all : ∀ ds : List D, (conB ds).all id = asc ds
  | [] => rfl
  | [_] => rfl
  | a :: b :: r => by
    have := conB_all (b :: r)
    simp [conB, asc] at this ⊢
    simp [this]
def gLtD : D → D
  | .tuple [a, b] => .bool (PySem.W.dataLt a b)
  | _ => .none
theorem con_zip : ∀ ds : List D, (zipD ds (ds.drop 1)).map gLtD = (conB ds).map PyData.bool
  | [] => rfl
  | [_] => rfl
  | a :: b :: r => by
    have ih := con_zip (b :: r)
    show gLtD (.tuple [a, b]) :: (zipD (b :: r) ((b :: r).drop 1)).map gLtD = _
    rw [ih]
    rfl
theorem bools_of : ∀ bs : List Bool, bools (bs.map PyData.bool) = some bs
  | [] => rfl
  | b :: r => by simp [bools, bools_of r]
theorem zip_drop_mem {P : D → Prop} {ds : List D} (h : ∀ d ∈ ds, P d) {x : D} (hx : x ∈ zipD ds (ds.drop 1)) : ∃ a b, x = .tuple [a, b] ∧ P a ∧ P b := by
  unfold zipD at hx
  rw [List.mem_iff_getElem?] at hx
  obtain ⟨k, hk⟩ := hx
  rw [List.getElem?_zipWith] at hk
  cases e1 : ds[k]? with
  | none => rw [e1] at hk; cases hk
  | some d =>
    rw [e1] at hk
    cases e2 : (ds.drop 1)[k]? with
    | none => rw [e2] at hk; cases hk
    | some i =>
      rw [e2] at hk
      cases hk
      exact ⟨d, i, rfl, h d (List.mem_of_getElem? e1), h i (List.mem_of_mem_drop (List.mem_of_getElem? e2))⟩
theorem p_is_ascending (f1 : T.fn "is_ascending" = some ⟨1, 3, c_is_ascending⟩) (n : Nat) (ds : List D) (hz : ds.length ≤ 10000) (h : ∀ a ∈ ds, ∀ b ∈ ds, gLt a b = some (.sh (.bool (PySem.W.dataLt a b)))) (dl : Option Dl) :
    call T (n + 1) "is_ascending" [.sh (.tuple ds)] dl = .ret (.sh (.bool (asc ds))) dl := by
  rw [call_def f1 rfl]
  show done (evSs (cal T n) c_is_ascending ⟨[some (.sh (.tuple ds)), none, none], dl⟩) = _
  have cut : WV.cutD ds (some 1) none = ds.drop 1 := by
    unfold WV.cutD
    have e1 : HT.sIx ds.length 0 (some 1) = min 1 ds.length := by
      have := HT.sIx_nat ds.length 0 1
      simpa using this
    have e2 : HT.sIx ds.length ds.length none = ds.length := rfl
    rw [e1, e2]
    cases ds with
    | nil => rfl
    | cons x r =>
      have : min 1 (x :: r).length = 1 := by simp
      rw [this]
      simp
  have e : evE (cal T n) (.lc [1, 2] (.tp [1, 2]) (.zip (.v 0) (.slc (.v 0) (.so (.lit (.int 1))) .no)) .no (.cmp .lt (.v 1) (.v 2))) ⟨[some (.sh (.tuple ds)), none, none], dl⟩ = .ok (.fr (.list ((zipD ds (ds.drop 1)).map gLtD))) ⟨[some (.sh (.tuple ds)), none, none], dl⟩ := by
    refine lc_map (items := zipD ds (ds.drop 1)) gLtD (by simp [slcG, cut, zipItems]) (by rw [zipD_len]; simp; omega) fun x hx => ?_
    obtain ⟨a, b, rfl, ha, hb⟩ := zip_drop_mem (P := fun d => d ∈ ds) (fun d hd => hd) hx
    refine ⟨[some (.sh (.tuple ds)), some (.sh a), some (.sh b)], ?_, by simp [wipeE]⟩
    simp [lcBody, bindT, wipeE, cmpG, h a ha b hb, gLtD]
  rw [con_zip] at e
  simp [c_is_ascending, e, biG, bools_of, ← conB_all]
theorem p_is_relation_of (f1 : T.fn "is_int" = some ⟨1, 1, c_is_int⟩) (f2 : T.fn "within" = some ⟨3, 3, c_within⟩) (f3 : T.fn "is_row" = some ⟨3, 3, c_is_row⟩) (f4 : T.fn "is_state_of" = some ⟨2, 4, c_is_state_of⟩) (f5 : T.fn "is_moment_of" = some ⟨2, 2, c_is_moment_of⟩) (f6 : T.fn "is_ascending" = some ⟨1, 3, c_is_ascending⟩) (f7 : T.fn "is_relation_of" = some ⟨2, 3, c_is_relation_of⟩)
    (n : Nat) (ns : List Int) (hn : ns.length ≤ 100) (d : D) (hd : ∀ ds, d = .tuple ds → ds.length ≤ 10000) (dl : Option Dl) : call T (n + 5) "is_relation_of" [.sh (frD ns), .sh d] dl = .ret (.sh (.bool (isRel ns d))) dl := by
  rw [call_def f7 rfl]
  show done (evSs (cal T (n + 4)) c_is_relation_of ⟨[some (.sh (frD ns)), some (.sh d), none], dl⟩) = _
  cases d <;> try (simp [c_is_relation_of, isTy, isRel]; done)
  rename_i ds
  have hz := hd ds rfl
  have e : evE (cal T (n + 4)) (.lc [2] (.nm 2) (.seq (.v 1)) .no (.call "is_moment_of" (.cons (.v 0) (.cons (.v 2) .nil)))) ⟨[some (.sh (frD ns)), some (.sh (.tuple ds)), none], dl⟩ = .ok (.fr (.list (ds.map fun d => .bool (isMo ns d)))) ⟨[some (.sh (frD ns)), some (.sh (.tuple ds)), none], dl⟩ := by
    refine lc_map (items := ds) (fun d => .bool (isMo ns d)) (by simp [seqItems]) (by simp; omega) fun x _ => ⟨[some (.sh (frD ns)), some (.sh (.tuple ds)), some (.sh x)], ?_, by simp [wipeE]⟩
    simp [lcBody, bindT, wipeE, p_is_moment_of f1 f2 f3 f4 f5 n ns hn]
  by_cases h : ds.all (isMo ns) = true
  · have h' : (ds.map (isMo ns)).all id = true := by simpa using h
    have hm : ∀ a ∈ ds, isMo ns a = true := List.all_eq_true.mp h
    have ea := p_is_ascending f6 (n + 3) ds hz (fun a ha b hb => mo_lt (hm a ha) (hm b hb)) dl
    simp only [c_is_relation_of, Ss_cons, S_ret_and, E_and, E_isi, opd_v, get_slot, List.getElem?_cons_zero, List.getElem?_cons_succ, Option.isSome_some, if_true, bind_ok, lift1_eq, Option.bind_some, isTy, outO_so, dat_sh, truD_bool, E_bi, opd_lc, e, get_dat, dat_fr, biG, bools_mapB, Option.map_some, h', E_call, A_cons, A_nil, isDeal_eq2, E_v, cal_fn, ea]
    simp [isRel, h]
  · have h' : (ds.map (isMo ns)).all id = false := by simpa using h
    have h'' : ds.all (isMo ns) = false := by simpa using h
    simp only [c_is_relation_of, Ss_cons, S_ret_and, E_and, E_isi, opd_v, get_slot, List.getElem?_cons_zero, List.getElem?_cons_succ, Option.isSome_some, if_true, bind_ok, lift1_eq, Option.bind_some, isTy, outO_so, dat_sh, truD_bool, E_bi, opd_lc, e, get_dat, dat_fr, biG, bools_mapB, Option.map_some, h']
    simp [isRel, h'']
/-! ### the law's own look -/
theorem all_range {α : Type} {ds : List D} {ns : List Int} (hl : ds.length = ns.length) (f : D → Int → Bool) : (List.range ns.length).all (fun k => match ds[k]?, ns[k]? with
    | some d, some i => f d i
    | _, _ => false) = (ds.zip ns).all fun p => f p.1 p.2 := by
  induction ns generalizing ds with
  | nil =>
    cases ds with
    | nil => rfl
    | cons _ _ => cases hl
  | cons i ns ih =>
    cases ds with
    | nil => cases hl
    | cons d ds =>
      rw [List.length_cons, List.range_succ_eq_map, List.all_cons, List.all_map, List.zip_cons_cons, List.all_cons]
      have := ih (ds := ds) (by simpa using hl)
      rw [← this]
      rfl
theorem range0 (k : Nat) : rangeD 0 (k : Int) = (List.range k).map fun (i : Nat) => PyData.int (i : Int) := by
  unfold rangeD
  simp
theorem rg_ok {k : Nat} (h : k ≤ 1000000) : rngItems (.int 0) (.int (k : Int)) = some (rangeD 0 (k : Int)) := by
  have h2 : (k : Int) ≤ 1000000 := by omega
  simp only [rngItems]
  rw [if_pos (by omega)]
theorem ix_tup {ds : List D} {k : Nat} {d : D} (h : ds[k]? = some d) : gIx (.tuple ds) (.int (k : Int)) = some (.sh d) := by
  show (L2.atI ds (k : Int)).map RV.sh = _
  rw [atI_pos h]
  rfl
def gLs (ds : List D) (ns : List Int) (k : Nat) : Bool := match ds[k]?, ns[k]? with
  | some d, some i => wi 0 (i - 1) d
  | _, _ => false
def gLsD (ds : List D) (ns : List Int) : D → D
  | .int k => .bool (gLs ds ns k.toNat)
  | _ => .none
theorem len_v (C : Cal) (ns : List Int) (r : List (Option Cell)) (dl : Option Dl) : evE C (.bi .len (.v 0)) ⟨some (.sh (frD ns)) :: r, dl⟩ = .ok (.sh (.int (ns.length : Int))) ⟨some (.sh (frD ns)) :: r, dl⟩ := by
  have e : biG .len (frD ns) = some (.sh (.int (ns.length : Int))) := by
    rw [biG_lent, List.length_map]
  simp only [E_bi, opd_v, get_slot, List.getElem?_cons_zero, Option.isSome_some, if_true, bind_ok, lift1_eq, Option.bind_some, e, outO_so]
theorem len_it (n : Nat) (ns : List Int) (hn : ns.length ≤ 100) (a b : Option Cell) (dl : Option Dl) : evI (cal T (n + 1)) (.rg1 (.bi .len (.v 0))) ⟨[some (.sh (frD ns)), a, b], dl⟩ = .ok (rangeD 0 (ns.length : Int)) ⟨[some (.sh (frD ns)), a, b], dl⟩ := by
  rw [I_rg1, len_v, bind_ok, dat_sh, rg_ok (by omega), outO_so]
theorem ls_lc (f1 : T.fn "_law_int" = some ⟨3, 3, c_law_int⟩) (n : Nat) (ns : List Int) (hn : ns.length ≤ 100) (ds : List D) (hl : ds.length = ns.length) (dl : Option Dl) :
    evE (cal T (n + 1)) (.lc [2] (.nm 2) (.rg1 (.bi .len (.v 0))) .no (.call "_law_int" (.cons (.ix (.v 1) (.v 2)) (.cons (.lit (.int 0)) (.cons (.bin .sub (.ix (.v 0) (.v 2)) (.lit (.int 1))) .nil))))) ⟨[some (.sh (frD ns)), some (.sh (.tuple ds)), none], dl⟩ = .ok (.fr (.list (((List.range ns.length).map (gLs ds ns)).map PyData.bool))) ⟨[some (.sh (frD ns)), some (.sh (.tuple ds)), none], dl⟩ := by
  have e0 : ((List.range ns.length).map (gLs ds ns)).map PyData.bool = (rangeD 0 (ns.length : Int)).map (gLsD ds ns) := by
    rw [range0, List.map_map, List.map_map]
    apply List.map_congr_left
    intro k _
    show PyData.bool (gLs ds ns k) = .bool (gLs ds ns ((k : Int)).toNat)
    rw [Int.toNat_natCast]
  rw [e0]
  refine lc_map (items := rangeD 0 (ns.length : Int)) (gLsD ds ns) (len_it n ns hn _ _ dl) (by rw [range0]; simp; omega) fun x hx => ?_
  rw [range0] at hx
  obtain ⟨k, hk, rfl⟩ := List.mem_map.mp hx
  have hk' := List.mem_range.mp hk
  obtain ⟨d, e1⟩ : ∃ d, ds[k]? = some d := ⟨_, List.getElem?_eq_getElem (by omega)⟩
  obtain ⟨i, e2⟩ : ∃ i, ns[k]? = some i := ⟨_, List.getElem?_eq_getElem hk'⟩
  have x1 := ix_tup e1
  have x2 : gIx (frD ns) (.int (k : Int)) = some (.sh (.int i)) := ix_tup (by rw [List.getElem?_map, e2]; rfl)
  refine ⟨[some (.sh (frD ns)), some (.sh (.tuple ds)), some (.sh (.int k))], ?_, by simp [wipeE]⟩
  have e3 : gLsD ds ns (.int (k : Int)) = .bool (wi 0 (i - 1) d) := by
    show PyData.bool (gLs ds ns ((k : Int)).toNat) = _
    rw [Int.toNat_natCast]
    unfold gLs
    rw [e1, e2]
  rw [e3]
  simp only [lcBody, bindT, wipeE, wp, setS, List.set_cons_succ, List.set_cons_zero, C_no, bind_ok, if_true, E_call, A_cons, A_nil, E_ix, opd_v, get_slot, List.getElem?_cons_zero, List.getElem?_cons_succ, Option.isSome_some, lift2_eq, Option.bind_some, x1, x2, outO_so, dat_sh, E_lit, E_bin, opd_ix, opd_lit, get_dat, binG_sub, cal_fn, p_law_int f1]
theorem p_law_is_state (f1 : T.fn "_law_int" = some ⟨3, 3, c_law_int⟩) (f2 : T.fn "_law_is_state" = some ⟨2, 3, c_law_is_state⟩) (n : Nat) (ns : List Int) (hn : ns.length ≤ 100) (d : D) (dl : Option Dl) :
    call T (n + 2) "_law_is_state" [.sh (frD ns), .sh d] dl = .ret (.sh (.bool (isSt ns d))) dl := by
  rw [call_def f2 rfl]
  show done (evSs (cal T (n + 1)) c_law_is_state ⟨[some (.sh (frD ns)), some (.sh d), none], dl⟩) = _
  cases d <;> try (simp [c_law_is_state, isTy, isSt]; done)
  rename_i ds
  by_cases hl : ds.length = ns.length
  · have e := ls_lc f1 n ns hn ds hl dl
    have ar : ((List.range ns.length).map (gLs ds ns)).all id = (ds.zip ns).all fun p => wi 0 (p.2 - 1) p.1 := by
      rw [← all_range (α := Nat) hl (fun d i => wi 0 (i - 1) d), List.all_map]
      rfl
    generalize (List.range ns.length).map (gLs ds ns) = bs at e ar
    have l1 : evE (cal T (n + 1)) (.bi .len (.v 1)) ⟨[some (.sh (frD ns)), some (.sh (.tuple ds)), none], dl⟩ = .ok (.sh (.int (ds.length : Int))) ⟨[some (.sh (frD ns)), some (.sh (.tuple ds)), none], dl⟩ := by
      simp only [E_bi, opd_v, get_slot, List.getElem?_cons_zero, List.getElem?_cons_succ, Option.isSome_some, if_true, bind_ok, lift1_eq, Option.bind_some, biG_lent, outO_so]
    have hne : cmpG .ne (.int (ds.length : Int)) (.int (ns.length : Int)) = some (.sh (.bool false)) := by
      rw [cmpG_ne, hl, gNe_int, beq_self_eq_true]
      rfl
    have t1 : evT (cal T (n + 1)) (.or (.not (.isi (.v 1) .tuple)) (.cmp .ne (.bi .len (.v 1)) (.bi .len (.v 0)))) ⟨[some (.sh (frD ns)), some (.sh (.tuple ds)), none], dl⟩ = .ok false ⟨[some (.sh (frD ns)), some (.sh (.tuple ds)), none], dl⟩ := by
      have t2 : evT (cal T (n + 1)) (.not (.isi (.v 1) .tuple)) ⟨[some (.sh (frD ns)), some (.sh (.tuple ds)), none], dl⟩ = .ok false ⟨[some (.sh (frD ns)), some (.sh (.tuple ds)), none], dl⟩ := by
        simp [isTy]
      rw [T_or, t2, bind_ok, if_neg Bool.false_ne_true, T_cmp, isTst_opd, E_cmp, opd_bi, l1, bind_ok, bind_ok, opd_bi, len_v, bind_ok, bind_ok, lift2_eq, get_dat, get_dat, Option.bind_some, Option.bind_some, dat_sh, dat_sh, hne, outO_so, bind_ok, bind_ok, get_dat, Option.bind_some, dat_sh, truD_bool, outO_so]
    have r1 : evE (cal T (n + 1)) (.bi .all (.lc [2] (.nm 2) (.rg1 (.bi .len (.v 0))) .no (.call "_law_int" (.cons (.ix (.v 1) (.v 2)) (.cons (.lit (.int 0)) (.cons (.bin .sub (.ix (.v 0) (.v 2)) (.lit (.int 1))) .nil)))))) ⟨[some (.sh (frD ns)), some (.sh (.tuple ds)), none], dl⟩ = .ok (.sh (.bool (bs.all id))) ⟨[some (.sh (frD ns)), some (.sh (.tuple ds)), none], dl⟩ := by
      have eb : biG .all (.list (bs.map PyData.bool)) = some (.sh (.bool (bs.all id))) := by
        show (bools (bs.map PyData.bool)).map _ = _
        rw [bools_of]
        rfl
      rw [E_bi, opd_lc, e, bind_ok, bind_ok, lift1_eq, get_dat, Option.bind_some, dat_fr, eb, outO_so]
    unfold c_law_is_state
    rw [Ss_cons, S_iff, t1, bind_ok, if_neg Bool.false_ne_true, Ss_nil, bind_ok, n_nx, Ss_cons, S_ret_bi, r1, bind_ok, bind_ok, n_ret, done_ret, ar]
    simp [isSt, hl]
  · have hne : ((ds.length : Int) == (ns.length : Int)) = false := by
      simp
      omega
    simp [c_law_is_state, isTy, isSt, hl, hne]
/-! ### the law's own look at relations -/
def is2 : D → Bool
  | .tuple [_, _] => true
  | _ => false
def st2 (ns : List Int) : D → Bool
  | .tuple [a, b] => isSt ns a && isSt ns b
  | _ => false
theorem mo_split (ns : List Int) (d : D) : isMo ns d = (is2 d && st2 ns d) := by
  cases d <;> try rfl
  rename_i ds
  match ds with
  | [] => rfl
  | [_] => rfl
  | [_, _] => rfl
  | _ :: _ :: _ :: _ => rfl
theorem l1_lc (C : Cal) (a : Option Cell) (ds : List D) (b c : Option Cell) (hz : ds.length ≤ 10000) (dl : Option Dl) : evE C (.lc [2] (.nm 2) (.seq (.v 1)) .no (.and (.isi (.v 2) .tuple) (.cmp .eq (.bi .len (.v 2)) (.lit (.int 2))))) ⟨[a, some (.sh (.tuple ds)), b, c], dl⟩ = .ok (.fr (.list (ds.map fun d => .bool (is2 d)))) ⟨[a, some (.sh (.tuple ds)), b, c], dl⟩ := by
  refine lc_map (items := ds) (fun d => .bool (is2 d)) (by simp [seqItems]) (by simp; omega) fun x _ => ⟨[a, some (.sh (.tuple ds)), some (.sh x), c], ?_, by simp [wipeE]⟩
  cases x <;> try (simp [lcBody, bindT, wipeE, isTy, is2]; done)
  rename_i es _
  have e : ((es.length : Int) == 2) = is2 (.tuple es) := by
    match es with
    | [] => rfl
    | [_] => rfl
    | [_, _] => rfl
    | _ :: _ :: _ :: r =>
      show ((((r.length + 1 + 1 + 1 : Nat) : Int)) == 2) = false
      exact beq_eq_false_iff_ne.mpr (by omega)
  simp [lcBody, bindT, wipeE, isTy, e]
theorem l2_lc (f1 : T.fn "_law_int" = some ⟨3, 3, c_law_int⟩) (f2 : T.fn "_law_is_state" = some ⟨2, 3, c_law_is_state⟩) (n : Nat) (ns : List Int) (hn : ns.length ≤ 100) (ds : List D) (b c : Option Cell) (hz : ds.length ≤ 10000) (h2 : ds.all is2 = true) (dl : Option Dl) :
    evE (cal T (n + 2)) (.lc [2] (.nm 2) (.seq (.v 1)) .no (.and (.call "_law_is_state" (.cons (.v 0) (.cons (.ix (.v 2) (.lit (.int 0))) .nil))) (.call "_law_is_state" (.cons (.v 0) (.cons (.ix (.v 2) (.lit (.int 1))) .nil))))) ⟨[some (.sh (frD ns)), some (.sh (.tuple ds)), b, c], dl⟩ = .ok (.fr (.list (ds.map fun d => .bool (st2 ns d)))) ⟨[some (.sh (frD ns)), some (.sh (.tuple ds)), b, c], dl⟩ := by
  refine lc_map (items := ds) (fun d => .bool (st2 ns d)) (by simp [seqItems]) (by simp; omega) fun x hx => ⟨[some (.sh (frD ns)), some (.sh (.tuple ds)), some (.sh x), c], ?_, by simp [wipeE]⟩
  have hx2 := List.all_eq_true.mp h2 x hx
  obtain ⟨p, q, rfl⟩ : ∃ p q, x = .tuple [p, q] := by
    unfold is2 at hx2
    split at hx2
    · exact ⟨_, _, rfl⟩
    · cases hx2
  have g0 : gIx (.tuple [p, q]) (.int 0) = some (.sh p) := rfl
  have g1 : gIx (.tuple [p, q]) (.int 1) = some (.sh q) := rfl
  have e1 := p_law_is_state f1 f2 n ns hn p
  have e2 := p_law_is_state f1 f2 n ns hn q
  cases h : isSt ns p <;> simp [lcBody, bindT, wipeE, g0, g1, e1, e2, h, st2]
def con1 (ds : List D) (k : Nat) : Bool := match ds[k]?, ds[k + 1]? with
  | some a, some b => PySem.W.dataLt a b
  | _, _ => false
theorem con_range : ∀ ds : List D, (List.range (ds.length - 1)).map (con1 ds) = conB ds
  | [] => rfl
  | [_] => rfl
  | a :: b :: r => by
    have ih := con_range (b :: r)
    have e : (a :: b :: r).length - 1 = ((b :: r).length - 1) + 1 := by simp
    rw [e, List.range_succ_eq_map, List.map_cons, List.map_map]
    show con1 (a :: b :: r) 0 :: _ = PySem.W.dataLt a b :: conB (b :: r)
    rw [← ih]
    rfl
def con1D (ds : List D) : D → D
  | .int k => .bool (con1 ds k.toNat)
  | _ => .none
theorem rg_len (ds : List D) (hz : ds.length ≤ 10000) : rngItems (.int 0) (.int ((ds.length : Int) - 1)) = some ((List.range (ds.length - 1)).map fun (i : Nat) => PyData.int (i : Int)) := by
  cases ds with
  | nil => kernel_rfl
  | cons x r =>
    have e : (((x :: r).length : Nat) : Int) - 1 = ((r.length : Nat) : Int) := by
      simp
    rw [e, rg_ok (by simp at hz; omega), range0]
    rfl
theorem l3_lc (C : Cal) (a : Option Cell) (ds : List D) (b : Option Cell) (hz : ds.length ≤ 10000) (h : ∀ a ∈ ds, ∀ b ∈ ds, gLt a b = some (.sh (.bool (PySem.W.dataLt a b)))) (dl : Option Dl) :
    evE C (.lc [3] (.nm 3) (.rg1 (.bin .sub (.bi .len (.v 1)) (.lit (.int 1)))) .no (.cmp .lt (.ix (.v 1) (.v 3)) (.ix (.v 1) (.bin .add (.v 3) (.lit (.int 1)))))) ⟨[a, some (.sh (.tuple ds)), b, none], dl⟩ = .ok (.fr (.list ((conB ds).map PyData.bool))) ⟨[a, some (.sh (.tuple ds)), b, none], dl⟩ := by
  have e0 : (conB ds).map PyData.bool = ((List.range (ds.length - 1)).map fun (i : Nat) => PyData.int (i : Int)).map (con1D ds) := by
    rw [← con_range, List.map_map, List.map_map]
    apply List.map_congr_left
    intro k _
    show PyData.bool (con1 ds k) = .bool (con1 ds ((k : Int)).toNat)
    rw [Int.toNat_natCast]
  rw [e0]
  have l1 : evE C (.bi .len (.v 1)) ⟨[a, some (.sh (.tuple ds)), b, none], dl⟩ = .ok (.sh (.int (ds.length : Int))) ⟨[a, some (.sh (.tuple ds)), b, none], dl⟩ := by
    simp only [E_bi, opd_v, get_slot, List.getElem?_cons_zero, List.getElem?_cons_succ, Option.isSome_some, if_true, bind_ok, lift1_eq, Option.bind_some, biG_lent, outO_so]
  refine lc_map (items := (List.range (ds.length - 1)).map fun (i : Nat) => PyData.int (i : Int)) (con1D ds) ?_ (by simp; omega) fun x hx => ?_
  · rw [I_rg1, E_bin, opd_bi, l1, bind_ok, bind_ok, opd_lit, E_lit, bind_ok, bind_ok, lift2_eq, get_dat, get_dat, Option.bind_some, Option.bind_some, dat_sh, dat_sh, binG_sub, outO_so, bind_ok, dat_sh, rg_len ds hz, outO_so]
  · obtain ⟨k, hk, rfl⟩ := List.mem_map.mp hx
    have hk' := List.mem_range.mp hk
    obtain ⟨p, e1⟩ : ∃ p, ds[k]? = some p := ⟨_, List.getElem?_eq_getElem (by omega)⟩
    obtain ⟨q, e2⟩ : ∃ q, ds[k + 1]? = some q := ⟨_, List.getElem?_eq_getElem (by omega)⟩
    have x1 := ix_tup e1
    have x2 := ix_tup e2
    have x3 : ((k + 1 : Nat) : Int) = (k : Int) + 1 := by omega
    rw [x3] at x2
    have e3 : con1D ds (.int (k : Int)) = .bool (PySem.W.dataLt p q) := by
      show PyData.bool (con1 ds ((k : Int)).toNat) = _
      rw [Int.toNat_natCast]
      unfold con1
      rw [e1, e2]
    rw [e3]
    have hp := List.mem_of_getElem? e1
    have hq := List.mem_of_getElem? e2
    refine ⟨[a, some (.sh (.tuple ds)), b, some (.sh (.int k))], ?_, by simp [wipeE]⟩
    simp only [lcBody, bindT, wipeE, wp, setS, List.set_cons_succ, List.set_cons_zero, C_no, bind_ok, if_true, E_cmp, opd_ix, E_ix, opd_v, get_slot, List.getElem?_cons_zero, List.getElem?_cons_succ, Option.isSome_some, lift2_eq, Option.bind_some, x1, outO_so, dat_sh, opd_bin, E_bin, opd_lit, E_lit, get_dat, binG_add, x2, cmpG, h p hp q hq]
theorem all_b (C : Cal) (e : Ex) (s s' : Sto) (bs : List Bool) (ho : ∀ r, opd e r s = r.bind fun rv s' => .ok (.dat rv.dat) s') (h : evE C e s = .ok (.fr (.list (bs.map PyData.bool))) s') : evE C (.bi .all e) s = .ok (.sh (.bool (bs.all id))) s' := by
  have eb : biG .all (.list (bs.map PyData.bool)) = some (.sh (.bool (bs.all id))) := by
    show (bools (bs.map PyData.bool)).map _ = _
    rw [bools_of]
    rfl
  rw [E_bi, ho, h, bind_ok, bind_ok, lift1_eq, get_dat, Option.bind_some, dat_fr, eb, outO_so]
theorem tst_b {C : Cal} {e : Ex} {s s' : Sto} {b : Bool} (h : evE C (.bi .all e) s = .ok (.sh (.bool b)) s') : evT C (.bi .all e) s = .ok b s' := by
  rw [T_bi, opd_bi, h, bind_ok, bind_ok, get_dat, Option.bind_some, dat_sh, truD_bool, outO_so]
theorem p_law_is_relation (f1 : T.fn "_law_int" = some ⟨3, 3, c_law_int⟩) (f2 : T.fn "_law_is_state" = some ⟨2, 3, c_law_is_state⟩) (f3 : T.fn "_law_is_relation" = some ⟨2, 4, c_law_is_relation⟩) (n : Nat) (ns : List Int) (hn : ns.length ≤ 100) (d : D) (hd : ∀ ds, d = .tuple ds → ds.length ≤ 10000) (dl : Option Dl) :
    call T (n + 3) "_law_is_relation" [.sh (frD ns), .sh d] dl = .ret (.sh (.bool (isRel ns d))) dl := by
  rw [call_def f3 rfl]
  show done (evSs (cal T (n + 2)) c_law_is_relation ⟨[some (.sh (frD ns)), some (.sh d), none, none], dl⟩) = _
  cases d <;> try (simp [c_law_is_relation, isTy, isRel]; done)
  rename_i ds
  have hz := hd ds rfl
  have a1 := all_b (cal T (n + 2)) _ _ _ (ds.map is2) (fun _ => rfl) (by rw [List.map_map]; exact l1_lc (cal T (n + 2)) (some (.sh (frD ns))) ds none none hz dl)
  have t0 : evT (cal T (n + 2)) (.not (.isi (.v 1) .tuple)) ⟨[some (.sh (frD ns)), some (.sh (.tuple ds)), none, none], dl⟩ = .ok false ⟨[some (.sh (frD ns)), some (.sh (.tuple ds)), none, none], dl⟩ := by
    simp [isTy]
  unfold c_law_is_relation
  rw [Ss_cons, S_iff, T_or, t0, bind_ok, if_neg Bool.false_ne_true, T_not, tst_b a1, bind_ok, bind_ok]
  have m2 : ((ds.map is2).all id) = ds.all is2 := by rw [List.all_map]; rfl
  rw [m2]
  have sp : ds.all (isMo ns) = (ds.all is2 && ds.all (st2 ns)) := by
    have : ∀ l : List D, l.all (isMo ns) = (l.all is2 && l.all (st2 ns)) := fun l => by
      induction l with
      | nil => rfl
      | cons x r ih =>
        simp only [List.all_cons, ih, mo_split]
        cases is2 x <;> cases st2 ns x <;> simp
    exact this ds
  cases h2 : ds.all is2 with
  | false =>
    simp [isRel, sp, h2]
  | true =>
    have a2 := all_b (cal T (n + 2)) _ _ _ (ds.map (st2 ns)) (fun _ => rfl) (by rw [List.map_map]; exact l2_lc f1 f2 n ns hn ds none none hz h2 dl)
    rw [Bool.not_true, if_neg Bool.false_ne_true, Ss_nil, bind_ok, n_nx, Ss_cons, S_iff, T_not, tst_b a2, bind_ok, bind_ok]
    have m3 : ((ds.map (st2 ns)).all id) = ds.all (st2 ns) := by rw [List.all_map]; rfl
    rw [m3]
    cases h3 : ds.all (st2 ns) with
    | false => simp [isRel, sp, h2, h3]
    | true =>
      have hm : ∀ a ∈ ds, isMo ns a = true := List.all_eq_true.mp (by rw [sp, h2, h3]; rfl)
      have a3 := all_b (cal T (n + 2)) _ _ _ (conB ds) (fun _ => rfl) (l3_lc (cal T (n + 2)) (some (.sh (frD ns))) ds none hz (fun a ha b hb => mo_lt (hm a ha) (hm b hb)) dl)
      rw [Bool.not_true, if_neg Bool.false_ne_true, Ss_nil, bind_ok, n_nx, Ss_cons, S_ret_bi, a3, bind_ok, bind_ok, n_ret, done_ret, conB_all]
      simp [isRel, sp, h2, h3]
end
end LA
namespace LA
open PySem PySem.Spec PyProof.Rows L2 WV
theorem lay_mem : ∀ {m : List D} {x : D}, x ∈ m → PyData.canLayAll0 m = true → x.canLay0 = true
  | y :: m, x, h, c => by
    have c' : y.canLay0 = true ∧ PyData.canLayAll0 m = true := by simpa [PyData.canLayAll0] using c
    rcases List.mem_cons.mp h with rfl | h
    · exact c'.1
    · exact lay_mem h c'.2
theorem dep_mem : ∀ {m : List D} {x : D}, x ∈ m → x.depth ≤ PyData.depthAll m
  | y :: m, x, h => by
    rw [PyData.depthAll]
    rcases List.mem_cons.mp h with rfl | h
    · omega
    · have := dep_mem h
      omega
theorem shaped_mem {m : List D} {x : D} (h : x ∈ m) (s : SeqAt.shaped (.list m) = true) : SeqAt.shaped x = true := by
  simp only [SeqAt.shaped, PyData.canLay0, PyData.depth, Bool.and_eq_true, decide_eq_true_eq] at s ⊢
  have := dep_mem h
  have s2 : PyData.depthAll m + 1 ≤ 64 := of_decide_eq_true s.2
  exact ⟨lay_mem h s.1, by omega⟩
theorem lay_sub {l m : List D} (h : List.Sublist l m) : PyData.canLayAll0 m = true → PyData.canLayAll0 l = true := by
  induction h with
  | slnil => exact fun h => h
  | cons a _ ih =>
    intro q
    simp only [PyData.canLayAll0, Bool.and_eq_true] at q
    exact ih q.2
  | cons_cons a _ ih =>
    intro q
    simp only [PyData.canLayAll0, Bool.and_eq_true] at q ⊢
    exact ⟨q.1, ih q.2⟩
theorem dep_sub {l m : List D} (h : List.Sublist l m) : PyData.depthAll l ≤ PyData.depthAll m := by
  induction h with
  | slnil => exact Nat.le_refl _
  | cons a _ ih => rw [PyData.depthAll]; omega
  | cons_cons a _ ih => rw [PyData.depthAll, PyData.depthAll]; omega
theorem shaped_sub {l m : List D} (h : List.Sublist l m) (s : SeqAt.shaped (.list m) = true) : SeqAt.shaped (.list l) = true := by
  simp only [SeqAt.shaped, PyData.canLay0, PyData.depth, Bool.and_eq_true, decide_eq_true_eq] at s ⊢
  have := dep_sub h
  have s2 : PyData.depthAll m + 1 ≤ 64 := of_decide_eq_true s.2
  have t2 : PyData.depthAll l + 1 ≤ 64 := by omega
  exact ⟨lay_sub h s.1, decide_eq_true t2⟩
end LA
namespace LD
open PySem PySem.Spec PyProof.Rows L2 WV
def c_is_int : Sms := (.cons (.ret (.and (.isi (.v 0) .int) (.not (.isi (.v 0) .bool)))) .nil)
class F_is_int (T : Tab) : Prop where
  h : T.fn "is_int" = some ⟨1, 1, c_is_int⟩
def c_within : Sms := (.cons (.ret (.and (.call "is_int" (.cons (.v 0) .nil)) (.chn .le .le (.v 1) (.v 0) (.v 2)))) .nil)
class F_within (T : Tab) : Prop where
  h : T.fn "within" = some ⟨3, 3, c_within⟩
def c_is_row : Sms := (.cons (.ret (.and (.isi (.v 0) .tuple) (.chn .le .le (.v 1) (.bi .len (.v 0)) (.v 2)))) .nil)
class F_is_row (T : Tab) : Prop where
  h : T.fn "is_row" = some ⟨3, 3, c_is_row⟩
def c_is_tagged : Sms := (.cons (.ret (.and (.call "is_row" (.cons (.v 0) (.cons (.v 2) (.cons (.v 2) .nil)))) (.and (.isi (.ix (.v 0) (.lit (.int 0))) .str) (.cmp .eq (.ix (.v 0) (.lit (.int 0))) (.v 1))))) .nil)
class F_is_tagged (T : Tab) : Prop where
  h : T.fn "is_tagged" = some ⟨3, 3, c_is_tagged⟩
def c_tag_of : Sms := (.cons (.ret (.ife (.and (.call "is_row" (.cons (.v 0) (.cons (.lit (.int 1)) (.cons (.lit (.int 4)) .nil)))) (.isi (.ix (.v 0) (.lit (.int 0))) .str)) (.ix (.v 0) (.lit (.int 0))) (.lit (.str "")))) .nil)
class F_tag_of (T : Tab) : Prop where
  h : T.fn "tag_of" = some ⟨1, 1, c_tag_of⟩
abbrev x_is_frame_of_1 : Ex := (.lc [1] (.nm 1) (.seq (.v 0)) .no (.call "within" (.cons (.v 1) (.cons (.lit (.int 2)) (.cons (.gl "MOST_VALUES" (.int 4)) .nil)))))
abbrev x_is_frame_of_2 : Sm := (.forr (.nm 1) (.seq (.v 0)) (.cons (.aug 2 .mul (.v 1)) .nil))
def c_is_frame_of : Sms := (.cons (.iff (.or (.not (.call "is_row" (.cons (.v 0) (.cons (.lit (.int 1)) (.cons (.gl "MOST_CELLS" (.int 3)) .nil))))) (.not (.bi .all x_is_frame_of_1))) (.cons (.ret (.lit (.bool false))) .nil) .nil) (.cons (.asg 2 (.lit (.int 1))) (.cons x_is_frame_of_2 (.cons (.ret (.cmp .le (.v 2) (.gl "MOST_STATES" (.int 9)))) .nil))))
class F_is_frame_of (T : Tab) : Prop where
  h : T.fn "is_frame_of" = some ⟨1, 3, c_is_frame_of⟩
def c_need_frame : Sms := (.cons (.iff (.not (.call "is_frame_of" (.cons (.v 0) .nil))) (.cons (.rse "BadFrame") .nil) .nil) .nil)
class F_need_frame (T : Tab) : Prop where
  h : T.fn "need_frame" = some ⟨1, 1, c_need_frame⟩
abbrev x_is_state_of_1 : Ex := (.lc [2, 3] (.tp [2, 3]) (.zip (.v 1) (.v 0)) .no (.call "within" (.cons (.v 2) (.cons (.lit (.int 0)) (.cons (.bin .sub (.v 3) (.lit (.int 1))) .nil)))))
def c_is_state_of : Sms := (.cons (.iff (.not (.call "is_row" (.cons (.v 1) (.cons (.bi .len (.v 0)) (.cons (.bi .len (.v 0)) .nil))))) (.cons (.ret (.lit (.bool false))) .nil) .nil) (.cons (.ret (.bi .all x_is_state_of_1)) .nil))
class F_is_state_of (T : Tab) : Prop where
  h : T.fn "is_state_of" = some ⟨2, 4, c_is_state_of⟩
def c_is_expression_within : Sms := (.cons (.iff (.cmp .eq (.v 2) (.lit (.int 0))) (.cons (.ret (.lit (.bool false))) .nil) .nil) (.cons (.iff (.call "is_tagged" (.cons (.v 1) (.cons (.lit (.str "value")) (.cons (.lit (.int 2)) .nil)))) (.cons (.ret (.call "within" (.cons (.ix (.v 1) (.lit (.int 1))) (.cons (.lit (.int 0)) (.cons (.gl "MOST_VALUE" (.int 9)) .nil))))) .nil) .nil) (.cons (.iff (.call "is_tagged" (.cons (.v 1) (.cons (.lit (.str "cell")) (.cons (.lit (.int 2)) .nil)))) (.cons (.ret (.call "within" (.cons (.ix (.v 1) (.lit (.int 1))) (.cons (.lit (.int 0)) (.cons (.bin .sub (.bi .len (.v 0)) (.lit (.int 1))) .nil))))) .nil) .nil) (.cons (.iff (.or (.not (.call "is_row" (.cons (.v 1) (.cons (.lit (.int 3)) (.cons (.lit (.int 3)) .nil))))) (.cmp .nin (.call "tag_of" (.cons (.v 1) .nil)) (.gl "SUMS" (.tuple [.str "plus", .str "minus", .str "times"])))) (.cons (.ret (.lit (.bool false))) .nil) .nil) (.cons (.ret (.and (.call "is_expression_within" (.cons (.v 0) (.cons (.ix (.v 1) (.lit (.int 1))) (.cons (.bin .sub (.v 2) (.lit (.int 1))) .nil)))) (.call "is_expression_within" (.cons (.v 0) (.cons (.ix (.v 1) (.lit (.int 2))) (.cons (.bin .sub (.v 2) (.lit (.int 1))) .nil)))))) .nil)))))
class F_is_expression_within (T : Tab) : Prop where
  h : T.fn "is_expression_within" = some ⟨3, 3, c_is_expression_within⟩
def c_is_expression_of : Sms := (.cons (.ret (.call "is_expression_within" (.cons (.v 0) (.cons (.v 1) (.cons (.gl "MOST_DEPTH" (.int 4)) .nil))))) .nil)
class F_is_expression_of (T : Tab) : Prop where
  h : T.fn "is_expression_of" = some ⟨2, 2, c_is_expression_of⟩
def c_value_in : Sms := (.cons (.asg 2 (.ix (.v 0) (.lit (.int 0)))) (.cons (.iff (.cmp .eq (.v 2) (.lit (.str "value"))) (.cons (.ret (.ix (.v 0) (.lit (.int 1)))) .nil) .nil) (.cons (.iff (.cmp .eq (.v 2) (.lit (.str "cell"))) (.cons (.ret (.ix (.v 1) (.ix (.v 0) (.lit (.int 1))))) .nil) .nil) (.cons (.par [3, 4] (.cons (.call "value_in" (.cons (.ix (.v 0) (.lit (.int 1))) (.cons (.v 1) .nil))) (.cons (.call "value_in" (.cons (.ix (.v 0) (.lit (.int 2))) (.cons (.v 1) .nil))) .nil))) (.cons (.iff (.cmp .eq (.v 2) (.lit (.str "plus"))) (.cons (.ret (.bin .add (.v 3) (.v 4))) .nil) .nil) (.cons (.ret (.ife (.cmp .eq (.v 2) (.lit (.str "minus"))) (.bin .sub (.v 3) (.v 4)) (.bin .mul (.v 3) (.v 4)))) .nil))))))
class F_value_in (T : Tab) : Prop where
  h : T.fn "value_in" = some ⟨2, 5, c_value_in⟩
def c_need_state_of : Sms := (.cons (.iff (.not (.call "is_state_of" (.cons (.v 0) (.cons (.v 1) .nil)))) (.cons (.rse "BadState") .nil) .nil) .nil)
class F_need_state_of (T : Tab) : Prop where
  h : T.fn "need_state_of" = some ⟨2, 2, c_need_state_of⟩
def c_is_expression : Sms := (.cons (.exp (.call "need_frame" (.cons (.v 0) .nil))) (.cons (.ret (.call "is_expression_of" (.cons (.v 0) (.cons (.v 1) .nil)))) .nil))
class F_is_expression (T : Tab) : Prop where
  h : T.fn "is_expression" = some ⟨2, 2, c_is_expression⟩
def c_value_of : Sms := (.cons (.exp (.call "need_frame" (.cons (.v 0) .nil))) (.cons (.iff (.not (.call "is_expression_of" (.cons (.v 0) (.cons (.v 1) .nil)))) (.cons (.rse "BadExpression") .nil) .nil) (.cons (.exp (.call "need_state_of" (.cons (.v 0) (.cons (.v 2) .nil)))) (.cons (.ret (.call "value_in" (.cons (.v 1) (.cons (.v 2) .nil)))) .nil))))
class F_value_of (T : Tab) : Prop where
  h : T.fn "value_of" = some ⟨3, 3, c_value_of⟩
def c__law_take : Sms := (.cons (.dcel 2 0) (.cons (.dset 0 2 (.bin .add (.dget 0 2) (.lit (.int 1)))) (.cons (.iff (.and (.cmp .lt (.dget 0 0) (.bin .pow (.lit (.int 10)) (.lit (.int 5)))) (.cmp .ne (.v 2) (.lst .nil))) (.cons (.asg 3 (.dpop 2)) (.cons (.dset 0 0 (.ife (.cmp .ge (.v 3) (.bin .pow (.lit (.int 10)) (.lit (.int 18)))) (.v 3) (.lit (.int 0)))) (.cons (.dset 0 1 (.bin .mod (.bi .int (.bin .add (.bin .add (.bin .mul (.dget 0 1) (.lit (.int 48271))) (.bin .mul (.bin .mod (.bi .int (.v 3)) (.lit (.int 2147483629))) (.lit (.int 69621)))) (.bin .mul (.lit (.int 13)) (.dget 0 2)))) (.lit (.int 2147483647)))) .nil))) .nil) (.cons (.iff (.cmp .ge (.dget 0 0) (.bin .pow (.lit (.int 10)) (.lit (.int 5)))) (.cons (.asg 4 (.bin .mod (.bi .int (.dget 0 0)) (.v 1))) (.cons (.dset 0 0 (.bin .div (.dget 0 0) (.v 1))) (.cons (.ret (.v 4)) .nil))) .nil) (.cons (.dset 0 1 (.bin .mod (.bi .int (.bin .add (.bin .add (.bin .mul (.dget 0 1) (.lit (.int 39373))) (.bin .mul (.lit (.int 7919)) (.dget 0 2))) (.lit (.int 5)))) (.lit (.int 2147483647)))) (.cons (.asg 5 (.bin .mod (.bi .int (.bin .add (.bin .add (.bin .mul (.dget 0 1) (.lit (.int 40692))) (.bin .mul (.bin .mul (.dget 0 2) (.dget 0 2)) (.lit (.int 271)))) (.lit (.int 3)))) (.lit (.int 2147483399)))) (.cons (.ret (.bin .mod (.bi .int (.bin .div (.v 5) (.lit (.int 32)))) (.v 1))) .nil)))))))
class F__law_take (T : Tab) : Prop where
  h : T.fn "_law_take" = some ⟨2, 6, c__law_take⟩
abbrev x__law_same_1 : Ex := (.lc [5] (.nm 5) (.rg1 (.bi .len (.v 4))) .no (.tup (.cons (.ix (.v 3) (.v 5)) (.cons (.ix (.v 4) (.v 5)) .nil))))
abbrev x__law_same_2 : Sm := (.whl (.cmp .ne (.v 2) (.lst .nil)) (.cons (.unp [3, 4] (.pop 2)) (.cons (.iff (.isi (.v 4) .tuple) (.cons (.iff (.or (.not (.isi (.v 3) .tuple)) (.cmp .ne (.bi .len (.v 3)) (.bi .len (.v 4)))) (.cons (.ret (.lit (.bool false))) .nil) .nil) (.cons (.exp (.ext 2 x__law_same_1)) .nil)) (.cons (.iff (.cmp .is (.v 4) (.lit (.none))) (.cons (.iff (.cmp .isn (.v 3) (.lit (.none))) (.cons (.ret (.lit (.bool false))) .nil) .nil) .nil) (.cons (.iff (.isi (.v 4) .bool) (.cons (.iff (.or (.not (.isi (.v 3) .bool)) (.cmp .ne (.v 3) (.v 4))) (.cons (.ret (.lit (.bool false))) .nil) .nil) .nil) (.cons (.iff (.isi (.v 4) .str) (.cons (.iff (.or (.not (.isi (.v 3) .str)) (.cmp .ne (.v 3) (.v 4))) (.cons (.ret (.lit (.bool false))) .nil) .nil) .nil) (.cons (.iff (.or (.not (.isi (.v 3) .int)) (.or (.isi (.v 3) .bool) (.cmp .ne (.v 3) (.v 4)))) (.cons (.ret (.lit (.bool false))) .nil) .nil) .nil)) .nil)) .nil)) .nil)) .nil)))
def c__law_same : Sms := (.cons (.asg 2 (.lst (.cons (.tup (.cons (.v 0) (.cons (.v 1) .nil))) .nil))) (.cons x__law_same_2 (.cons (.ret (.lit (.bool true))) .nil)))
class F__law_same (T : Tab) : Prop where
  h : T.fn "_law_same" = some ⟨2, 6, c__law_same⟩
def c__law_int : Sms := (.cons (.ret (.and (.isi (.v 0) .int) (.and (.not (.isi (.v 0) .bool)) (.chn .le .le (.v 1) (.v 0) (.v 2))))) .nil)
class F__law_int (T : Tab) : Prop where
  h : T.fn "_law_int" = some ⟨3, 3, c__law_int⟩
abbrev x__law_frame_1 : Ex := (.lc [4] (.nm 4) (.seq (.v 3)) (.so (.cmp .le (.v 4) (.v 1))) (.v 4))
def c__law_frame : Sms := (.cons (.asg 2 (.lst (.cons (.tup (.cons (.lit (.int 2)) .nil)) (.cons (.tup (.cons (.lit (.int 3)) .nil)) (.cons (.tup (.cons (.lit (.int 4)) .nil)) (.cons (.tup (.cons (.lit (.int 2)) (.cons (.lit (.int 2)) .nil))) (.cons (.tup (.cons (.lit (.int 2)) (.cons (.lit (.int 3)) .nil))) (.cons (.tup (.cons (.lit (.int 3)) (.cons (.lit (.int 2)) .nil))) (.cons (.tup (.cons (.lit (.int 2)) (.cons (.lit (.int 4)) .nil))) (.cons (.tup (.cons (.lit (.int 4)) (.cons (.lit (.int 2)) .nil))) (.cons (.tup (.cons (.lit (.int 2)) (.cons (.lit (.int 2)) (.cons (.lit (.int 2)) .nil)))) (.cons (.tup (.cons (.lit (.int 3)) (.cons (.lit (.int 3)) .nil))) .nil)))))))))))) (.cons (.asg 3 (.lst (.cons (.lit (.int 2)) (.cons (.lit (.int 3)) (.cons (.lit (.int 4)) (.cons (.lit (.int 4)) (.cons (.lit (.int 6)) (.cons (.lit (.int 6)) (.cons (.lit (.int 8)) (.cons (.lit (.int 8)) (.cons (.lit (.int 8)) (.cons (.lit (.int 9)) .nil)))))))))))) (.cons (.ret (.ix (.v 2) (.call "_law_take" (.cons (.v 0) (.cons (.bi .len x__law_frame_1) .nil))))) .nil)))
class F__law_frame (T : Tab) : Prop where
  h : T.fn "_law_frame" = some ⟨2, 5, c__law_frame⟩
abbrev x__law_states_1 : Ex := (.lc [5] (.nm 5) (.rg1 (.v 2)) .no (.bin .add (.v 4) (.tup (.cons (.v 5) .nil))))
abbrev x__law_states_2 : Sm := (.forr (.nm 4) (.seq (.v 1)) (.cons (.exp (.ext 3 x__law_states_1)) .nil))
abbrev x__law_states_3 : Sm := (.forr (.nm 2) (.seq (.v 0)) (.cons (.asg 3 (.lst .nil)) (.cons x__law_states_2 (.cons (.asg 1 (.v 3)) .nil))))
def c__law_states : Sms := (.cons (.asg 1 (.lst (.cons (.tup .nil) .nil))) (.cons x__law_states_3 (.cons (.ret (.v 1)) .nil)))
class F__law_states (T : Tab) : Prop where
  h : T.fn "_law_states" = some ⟨1, 6, c__law_states⟩
def c__law_expression : Sms := (.cons (.asg 3 (.ife (.cmp .gt (.v 2) (.lit (.int 1))) (.call "_law_take" (.cons (.v 0) (.cons (.lit (.int 6)) .nil))) (.call "_law_take" (.cons (.v 0) (.cons (.lit (.int 3)) .nil))))) (.cons (.iff (.or (.cmp .eq (.v 3) (.lit (.int 0))) (.cmp .eq (.v 3) (.lit (.int 1)))) (.cons (.ret (.tup (.cons (.lit (.str "value")) (.cons (.call "_law_take" (.cons (.v 0) (.cons (.ix (.lst (.cons (.lit (.int 2)) (.cons (.lit (.int 4)) (.cons (.lit (.int 10)) .nil)))) (.call "_law_take" (.cons (.v 0) (.cons (.lit (.int 3)) .nil)))) .nil))) .nil)))) .nil) .nil) (.cons (.iff (.cmp .eq (.v 3) (.lit (.int 2))) (.cons (.ret (.tup (.cons (.lit (.str "cell")) (.cons (.call "_law_take" (.cons (.v 0) (.cons (.bi .len (.v 1)) .nil))) .nil)))) .nil) .nil) (.cons (.asg 4 (.ix (.lst (.cons (.lit (.str "plus")) (.cons (.lit (.str "minus")) (.cons (.lit (.str "times")) .nil)))) (.bin .sub (.v 3) (.lit (.int 3))))) (.cons (.asg 5 (.call "_law_expression" (.cons (.v 0) (.cons (.v 1) (.cons (.bin .sub (.v 2) (.lit (.int 1))) .nil))))) (.cons (.ret (.tup (.cons (.v 4) (.cons (.v 5) (.cons (.call "_law_expression" (.cons (.v 0) (.cons (.v 1) (.cons (.bin .sub (.v 2) (.lit (.int 1))) .nil)))) .nil))))) .nil))))))
class F__law_expression (T : Tab) : Prop where
  h : T.fn "_law_expression" = some ⟨3, 6, c__law_expression⟩
def c__law_value : Sms := (.cons (.iff (.cmp .eq (.ix (.v 0) (.lit (.int 0))) (.lit (.str "value"))) (.cons (.ret (.ix (.v 0) (.lit (.int 1)))) .nil) .nil) (.cons (.iff (.cmp .eq (.ix (.v 0) (.lit (.int 0))) (.lit (.str "cell"))) (.cons (.ret (.ix (.v 1) (.ix (.v 0) (.lit (.int 1))))) .nil) .nil) (.cons (.par [2, 3] (.cons (.call "_law_value" (.cons (.ix (.v 0) (.lit (.int 1))) (.cons (.v 1) .nil))) (.cons (.call "_law_value" (.cons (.ix (.v 0) (.lit (.int 2))) (.cons (.v 1) .nil))) .nil))) (.cons (.ret (.ix (.dsp [.str "plus", .str "minus", .str "times"] (.cons (.bin .add (.v 2) (.v 3)) (.cons (.bin .sub (.v 2) (.v 3)) (.cons (.bin .mul (.v 2) (.v 3)) .nil)))) (.ix (.v 0) (.lit (.int 0))))) .nil))))
class F__law_value (T : Tab) : Prop where
  h : T.fn "_law_value" = some ⟨2, 4, c__law_value⟩
def c__law_is_expression : Sms := (.cons (.iff (.or (.cmp .eq (.v 2) (.lit (.int 0))) (.or (.not (.isi (.v 1) .tuple)) (.or (.not (.chn .le .le (.lit (.int 2)) (.bi .len (.v 1)) (.lit (.int 3)))) (.not (.isi (.ix (.v 1) (.lit (.int 0))) .str))))) (.cons (.ret (.lit (.bool false))) .nil) .nil) (.cons (.iff (.cmp .eq (.ix (.v 1) (.lit (.int 0))) (.lit (.str "value"))) (.cons (.ret (.and (.cmp .eq (.bi .len (.v 1)) (.lit (.int 2))) (.call "_law_int" (.cons (.ix (.v 1) (.lit (.int 1))) (.cons (.lit (.int 0)) (.cons (.lit (.int 9)) .nil)))))) .nil) .nil) (.cons (.iff (.cmp .eq (.ix (.v 1) (.lit (.int 0))) (.lit (.str "cell"))) (.cons (.ret (.and (.cmp .eq (.bi .len (.v 1)) (.lit (.int 2))) (.call "_law_int" (.cons (.ix (.v 1) (.lit (.int 1))) (.cons (.lit (.int 0)) (.cons (.bin .sub (.bi .len (.v 0)) (.lit (.int 1))) .nil)))))) .nil) .nil) (.cons (.iff (.or (.cmp .nin (.ix (.v 1) (.lit (.int 0))) (.tup (.cons (.lit (.str "plus")) (.cons (.lit (.str "minus")) (.cons (.lit (.str "times")) .nil))))) (.cmp .ne (.bi .len (.v 1)) (.lit (.int 3)))) (.cons (.ret (.lit (.bool false))) .nil) .nil) (.cons (.ret (.and (.call "_law_is_expression" (.cons (.v 0) (.cons (.ix (.v 1) (.lit (.int 1))) (.cons (.bin .sub (.v 2) (.lit (.int 1))) .nil)))) (.call "_law_is_expression" (.cons (.v 0) (.cons (.ix (.v 1) (.lit (.int 2))) (.cons (.bin .sub (.v 2) (.lit (.int 1))) .nil)))))) .nil)))))
class F__law_is_expression (T : Tab) : Prop where
  h : T.fn "_law_is_expression" = some ⟨3, 3, c__law_is_expression⟩
abbrev x__law_chain_1 : Sm := (.forr (.nm 4) (.rg1 (.bin .sub (.v 2) (.lit (.int 1)))) (.cons (.par [5, 6] (.cons (.ix (.lst (.cons (.lit (.str "plus")) (.cons (.lit (.str "minus")) (.cons (.lit (.str "times")) .nil)))) (.call "_law_take" (.cons (.v 0) (.cons (.lit (.int 3)) .nil)))) (.cons (.call "_law_take" (.cons (.v 0) (.cons (.lit (.int 3)) .nil))) .nil))) (.cons (.asg 7 (.ife (.cmp .eq (.v 6) (.lit (.int 0))) (.v 3) (.call "_law_expression" (.cons (.v 0) (.cons (.v 1) (.cons (.lit (.int 1)) .nil)))))) (.cons (.asg 3 (.ife (.cmp .lt (.v 6) (.lit (.int 2))) (.tup (.cons (.v 5) (.cons (.v 3) (.cons (.v 7) .nil)))) (.tup (.cons (.v 5) (.cons (.v 7) (.cons (.v 3) .nil)))))) .nil))))
def c__law_chain : Sms := (.cons (.asg 3 (.ife (.cmp .eq (.call "_law_take" (.cons (.v 0) (.cons (.lit (.int 2)) .nil))) (.lit (.int 0))) (.tup (.cons (.lit (.str "value")) (.cons (.call "_law_take" (.cons (.v 0) (.cons (.lit (.int 10)) .nil))) .nil))) (.tup (.cons (.lit (.str "cell")) (.cons (.call "_law_take" (.cons (.v 0) (.cons (.bi .len (.v 1)) .nil))) .nil))))) (.cons x__law_chain_1 (.cons (.ret (.v 3)) .nil)))
class F__law_chain (T : Tab) : Prop where
  h : T.fn "_law_chain" = some ⟨3, 8, c__law_chain⟩
abbrev x__law_spots_1 : Ex := (.lc [3] (.nm 3) (.seq (.call "_law_spots" (.cons (.ix (.v 0) (.v 2)) .nil))) .no (.bin .add (.tup (.cons (.v 2) .nil)) (.v 3)))
abbrev x__law_spots_2 : Sm := (.forr (.nm 2) (.seq (.tup (.cons (.lit (.int 1)) (.cons (.lit (.int 2)) .nil)))) (.cons (.exp (.ext 1 x__law_spots_1)) .nil))
def c__law_spots : Sms := (.cons (.asg 1 (.lst (.cons (.tup .nil) .nil))) (.cons (.iff (.cmp .eq (.bi .len (.v 0)) (.lit (.int 3))) (.cons x__law_spots_2 .nil) .nil) (.cons (.ret (.v 1)) .nil)))
class F__law_spots (T : Tab) : Prop where
  h : T.fn "_law_spots" = some ⟨1, 4, c__law_spots⟩
def c__law_put : Sms := (.cons (.iff (.cmp .eq (.v 1) (.tup .nil)) (.cons (.ret (.v 2)) .nil) .nil) (.cons (.ret (.bin .add (.bin .add (.slc (.v 0) .no (.so (.ix (.v 1) (.lit (.int 0))))) (.tup (.cons (.call "_law_put" (.cons (.ix (.v 0) (.ix (.v 1) (.lit (.int 0)))) (.cons (.slc (.v 1) (.so (.lit (.int 1))) .no) (.cons (.v 2) .nil)))) .nil))) (.slc (.v 0) (.so (.bin .add (.ix (.v 1) (.lit (.int 0))) (.lit (.int 1)))) .no))) .nil))
class F__law_put (T : Tab) : Prop where
  h : T.fn "_law_put" = some ⟨3, 3, c__law_put⟩
end LD
namespace LD
open PySem PySem.Spec PyProof.Rows L2 WV LA
theorem call_at {T : Tab} {f : Str} {np nn : Nat} {b : Sms} {l : Nat} {args : List Cell} {dl : Option Dl} (h : T.fn f = some ⟨np, nn, b⟩) (hl : 1 ≤ l) (ha : args.length = np) : call T l f args dl = done (evSs (cal T (l - 1)) b ⟨args.map some ++ List.replicate (nn - np) none, dl⟩) := by
  obtain ⟨n, rfl⟩ : ∃ n, l = n + 1 := ⟨l - 1, by omega⟩
  exact call_def h ha
@[simp] theorem gEq_str {x y : Str} : gEq (.str x) (.str y) = some (.sh (.bool (x == y))) := by
  unfold gEq
  rw [show ((SeqAt.shaped (PyData.str x) && SeqAt.shaped (PyData.str y)) || (isTxt (.str x) && isTxt (.str y))) = true from Bool.or_true _, if_pos rfl]
  rfl
@[simp] theorem gNe_str {x y : Str} : gNe (.str x) (.str y) = some (.sh (.bool (!(x == y)))) := by
  unfold gNe
  rw [show ((SeqAt.shaped (PyData.str x) && SeqAt.shaped (PyData.str y)) || (isTxt (.str x) && isTxt (.str y))) = true from Bool.or_true _, if_pos rfl]
  rfl
theorem any_txt (x : Str) : ∀ l : List Str, ((l.map PyData.str).any fun z => PyData.eqv z (.str x)) = l.any (· == x)
  | [] => rfl
  | y :: l => by
    rw [List.map_cons, List.any_cons, List.any_cons, any_txt x l]
    rfl
theorem all_txt : ∀ l : List Str, (l.map PyData.str).all isTxt = true
  | [] => rfl
  | y :: l => by rw [List.map_cons, List.all_cons, all_txt l]; rfl
theorem inD_tup (d : D) (ds : List D) : inD d (.tuple ds) = if (SeqAt.shaped d && SeqAt.shaped (.tuple ds)) || (isTxt d && ds.all isTxt) then some (ds.any fun z => PyData.eqv z d) else none := rfl
theorem gIn_strs (x : Str) (l : List Str) : gIn (.str x) (.tuple (l.map PyData.str)) = some (.sh (.bool (l.any (· == x)))) := by
  unfold gIn
  rw [inD_tup, all_txt l, show ((SeqAt.shaped (PyData.str x) && SeqAt.shaped (PyData.tuple (l.map PyData.str))) || (isTxt (.str x) && true)) = true from Bool.or_true _, if_pos rfl, any_txt]
  rfl
theorem gNotIn_strs (x : Str) (l : List Str) : gNotIn (.str x) (.tuple (l.map PyData.str)) = some (.sh (.bool (!(l.any (· == x))))) := by
  unfold gNotIn
  rw [inD_tup, all_txt l, show ((SeqAt.shaped (PyData.str x) && SeqAt.shaped (PyData.tuple (l.map PyData.str))) || (isTxt (.str x) && true)) = true from Bool.or_true _, if_pos rfl, any_txt]
  rfl
section
variable {T : Tab} {l : Nat} {dl : Option Dl}
@[simp] theorem q_is_int [F_is_int T] (hl : 1 ≤ l) {d : D} : call T l "is_int" [.sh d] dl = .ret (.sh (.bool (isIntD d))) dl := by
  obtain ⟨n, rfl⟩ : ∃ n, l = n + 1 := ⟨l - 1, by omega⟩
  exact p_is_int F_is_int.h n d dl
@[simp] theorem q_within [F_is_int T] [F_within T] (hl : 2 ≤ l) {d : D} {lo hi : Int} : call T l "within" [.sh d, .sh (.int lo), .sh (.int hi)] dl = .ret (.sh (.bool (wi lo hi d))) dl := by
  obtain ⟨n, rfl⟩ : ∃ n, l = n + 2 := ⟨l - 2, by omega⟩
  exact p_within F_is_int.h F_within.h n d lo hi dl
@[simp] theorem q_is_row [F_is_row T] (hl : 1 ≤ l) {d : D} {lo hi : Int} : call T l "is_row" [.sh d, .sh (.int lo), .sh (.int hi)] dl = .ret (.sh (.bool (rowB lo hi d))) dl := by
  obtain ⟨n, rfl⟩ : ∃ n, l = n + 1 := ⟨l - 1, by omega⟩
  exact p_is_row F_is_row.h n d lo hi dl
@[simp] theorem q_law_int [F__law_int T] (hl : 1 ≤ l) {d : D} {lo hi : Int} : call T l "_law_int" [.sh d, .sh (.int lo), .sh (.int hi)] dl = .ret (.sh (.bool (wi lo hi d))) dl := by
  obtain ⟨n, rfl⟩ : ∃ n, l = n + 1 := ⟨l - 1, by omega⟩
  exact p_law_int F__law_int.h n d lo hi dl
@[simp] theorem q_is_frame_of [F_is_int T] [F_within T] [F_is_row T] [F_is_frame_of T] (hl : 3 ≤ l) {d : D} : call T l "is_frame_of" [.sh d] dl = .ret (.sh (.bool (isFr d))) dl := by
  obtain ⟨n, rfl⟩ : ∃ n, l = n + 3 := ⟨l - 3, by omega⟩
  exact p_is_frame_of F_is_int.h F_within.h F_is_row.h F_is_frame_of.h n d dl
@[simp] theorem q_need_frame [F_is_int T] [F_within T] [F_is_row T] [F_is_frame_of T] [F_need_frame T] (hl : 4 ≤ l) {d : D} : call T l "need_frame" [.sh d] dl = if isFr d then .ret (.sh .none) dl else .exc "BadFrame" dl := by
  obtain ⟨n, rfl⟩ : ∃ n, l = n + 4 := ⟨l - 4, by omega⟩
  exact p_need_frame F_is_int.h F_within.h F_is_row.h F_is_frame_of.h F_need_frame.h n d dl
@[simp] theorem q_is_state_of [F_is_int T] [F_within T] [F_is_row T] [F_is_state_of T] (hl : 3 ≤ l) {ns : List Int} (hn : ns.length ≤ 100) {d : D} : call T l "is_state_of" [.sh (frD ns), .sh d] dl = .ret (.sh (.bool (isSt ns d))) dl := by
  obtain ⟨n, rfl⟩ : ∃ n, l = n + 3 := ⟨l - 3, by omega⟩
  exact p_is_state_of F_is_int.h F_within.h F_is_row.h F_is_state_of.h n ns hn d dl
/-! ### tags -/
def tagB (t : Str) (k : Int) : D → Bool
  | .tuple (.str x :: r) => decide ((r.length : Int) + 1 = k) && (x == t)
  | _ => false
theorem row_eq {ds : List D} {k : Int} : rowB k k (.tuple ds) = decide ((ds.length : Int) = k) := by
  unfold rowB
  by_cases h : (ds.length : Int) = k
  · simp [h]
  · have : ¬ (k ≤ ds.length ∧ (ds.length : Int) ≤ k) := by omega
    simp [h]
    omega
@[simp] theorem q_is_tagged [F_is_row T] [F_is_tagged T] (hl : 2 ≤ l) {d : D} {t : Str} {k : Int} (hk : 1 ≤ k) : call T l "is_tagged" [.sh d, .sh (.str t), .sh (.int k)] dl = .ret (.sh (.bool (tagB t k d))) dl := by
  rw [call_at F_is_tagged.h (by omega) rfl]
  show done (evSs (cal T (l - 1)) c_is_tagged ⟨[some (.sh d), some (.sh (.str t)), some (.sh (.int k))], dl⟩) = _
  cases d with
  | tuple ds => ?_
  | _ => simp (disch := omega) [c_is_tagged, rowB, tagB]
  cases ds with
  | nil =>
    have : ¬ (0 : Int) = k := by omega
    simp (disch := omega) [c_is_tagged, row_eq, tagB, this]
  | cons x r =>
    by_cases h : (r.length : Int) + 1 = k
    · subst h
      cases x <;> simp (disch := omega) [c_is_tagged, row_eq, tagB, isTy]
    · cases x <;> simp (disch := omega) [c_is_tagged, row_eq, tagB, h]
def tagOf : D → Str
  | .tuple (.str x :: r) => if r.length ≤ 3 then x else ""
  | _ => ""
@[simp] theorem q_tag_of [F_is_row T] [F_tag_of T] (hl : 2 ≤ l) {d : D} : call T l "tag_of" [.sh d] dl = .ret (.sh (.str (tagOf d))) dl := by
  rw [call_at F_tag_of.h (by omega) rfl]
  show done (evSs (cal T (l - 1)) c_tag_of ⟨[some (.sh d)], dl⟩) = _
  cases d with
  | tuple ds => ?_
  | _ => simp (disch := omega) [c_tag_of, rowB, tagOf]
  cases ds with
  | nil => simp (disch := omega) [c_tag_of, rowB, tagOf]
  | cons x r =>
    by_cases h : r.length ≤ 3
    · have h1 : (1 : Int) ≤ (r.length : Int) + 1 ∧ (r.length : Int) + 1 ≤ 4 := by omega
      cases x <;> simp (disch := omega) [c_tag_of, rowB, tagOf, isTy, h, h1]
    · have h1 : ¬ (r.length : Int) + 1 ≤ 4 := by omega
      cases x <;> simp (disch := omega) [c_tag_of, rowB, tagOf, h, h1]
end
end LD
namespace LD
open PySem PySem.Spec PyProof.Rows L2 WV LA
/-! ## expressions -/
def sums : List Str := ["plus", "minus", "times"]
def isEb (m : Int) (r : D → Bool) : D → Bool
  | .tuple [.str t, x] => if t = "value" then wi 0 9 x else if t = "cell" then wi 0 (m - 1) x else false
  | .tuple [.str t, a, b] => sums.any (· == t) && (r a && r b)
  | _ => false
def isE (m : Int) : Nat → D → Bool
  | 0 => fun _ => false
  | k + 1 => isEb m (isE m k)
theorem gNotIn_sums (x : Str) : gNotIn (.str x) (.tuple [.str "plus", .str "minus", .str "times"]) = some (.sh (.bool (!(sums.any (· == x))))) := gNotIn_strs x sums
theorem gNotIn_none : gNotIn (.str "") (.tuple [.str "plus", .str "minus", .str "times"]) = some (.sh (.bool true)) := gNotIn_sums ""
theorem len_fr (ns : List Int) : biG .len (frD ns) = some (.sh (.int ns.length)) := by simp
section
variable {T : Tab} {l : Nat} {dl : Option Dl}
theorem q_is_expression_within [F_is_int T] [F_within T] [F_is_row T] [F_is_tagged T] [F_tag_of T] [F_is_expression_within T] {ns : List Int} : ∀ {k l : Nat} (hl : k + 3 ≤ l) {d : D} {dl : Option Dl},
    call T l "is_expression_within" [.sh (frD ns), .sh d, .sh (.int k)] dl = .ret (.sh (.bool (isE ns.length k d))) dl
  | 0, l, hl, d, dl => by
    rw [call_at F_is_expression_within.h (by omega) rfl]
    show done (evSs (cal T (l - 1)) c_is_expression_within ⟨[some (.sh (frD ns)), some (.sh d), some (.sh (.int 0))], dl⟩) = _
    simp (disch := omega) [c_is_expression_within, isE, isEb]
  | k + 1, l, hl, d, dl => by
    have ih := fun (a : D) (dl : Option Dl) => q_is_expression_within (ns := ns) (k := k) (l := l - 1) (by omega) (d := a) (dl := dl)
    rw [call_at F_is_expression_within.h (by omega) rfl]
    show done (evSs (cal T (l - 1)) c_is_expression_within ⟨[some (.sh (frD ns)), some (.sh d), some (.sh (.int ((k + 1 : Nat) : Int)))], dl⟩) = _
    have h0 : (((k : Int) + 1) == 0) = false := by simp; omega
    cases d with
    | tuple ds => ?_
    | _ => simp (disch := omega) [c_is_expression_within, isE, isEb, tagB, rowB, h0]
    match ds with
    | [] => simp (disch := omega) [c_is_expression_within, isE, isEb, tagB, rowB, h0]
    | [x] =>
      cases x <;> simp (disch := omega) [c_is_expression_within, isE, isEb, tagB, rowB, h0]
    | [x, y] =>
      cases x with
      | str t =>
        by_cases e1 : t = "value"
        · simp (disch := omega) [c_is_expression_within, isE, isEb, tagB, rowB, h0, e1]
        · by_cases e2 : t = "cell"
          · subst e2
            have z : ((Str.ofString "cell") == (Str.ofString "value")) = false := by decide
            have z2 : ¬ ((Str.ofString "cell") = (Str.ofString "value")) := by decide
            simp (disch := omega) [c_is_expression_within, isE, isEb, tagB, rowB, h0, z, z2]
          · simp (disch := omega) [c_is_expression_within, isE, isEb, tagB, rowB, h0, e1, e2]
      | _ => simp (disch := omega) [c_is_expression_within, isE, isEb, tagB, rowB, h0]
    | [x, y, z] =>
      cases x with
      | str t =>
        cases e : sums.any (· == t) <;> simp (disch := omega) [c_is_expression_within, isE, isEb, tagB, rowB, tagOf, h0, gNotIn_sums, e, ih]
        cases isE ns.length k y <;> rfl
      | _ => simp (disch := omega) [c_is_expression_within, isE, isEb, tagB, rowB, tagOf, h0, gNotIn_none]
    | x :: y :: z :: w :: r =>
      have h4 : ¬ ((r.length : Int) + 1 + 1 + 1 + 1 = 2) := by omega
      have h5 : ¬ ((r.length : Int) + 1 + 1 + 1 + 1 ≤ 3) := by omega
      cases x <;> simp (disch := omega) [c_is_expression_within, isE, isEb, tagB, rowB, h0, h4, h5]
@[simp] theorem q_is_expression_of [F_is_int T] [F_within T] [F_is_row T] [F_is_tagged T] [F_tag_of T] [F_is_expression_within T] [F_is_expression_of T] {ns : List Int} (hl : 8 ≤ l) {d : D} :
    call T l "is_expression_of" [.sh (frD ns), .sh d] dl = .ret (.sh (.bool (isE ns.length 4 d))) dl := by
  have ih := fun (a : D) (dl : Option Dl) => q_is_expression_within (T := T) (ns := ns) (k := 4) (l := l - 1) (by omega) (d := a) (dl := dl)
  rw [call_at F_is_expression_of.h (by omega) rfl]
  show done (evSs (cal T (l - 1)) c_is_expression_of ⟨[some (.sh (frD ns)), some (.sh d)], dl⟩) = _
  simp at ih
  simp (disch := omega) [c_is_expression_of, ih]
/-- the law's own -/
theorem q_law_is_expression [F__law_int T] [F__law_is_expression T] {ns : List Int} : ∀ {k l : Nat} (hl : k + 3 ≤ l) {d : D} {dl : Option Dl},
    call T l "_law_is_expression" [.sh (frD ns), .sh d, .sh (.int k)] dl = .ret (.sh (.bool (isE ns.length k d))) dl
  | 0, l, hl, d, dl => by
    rw [call_at F__law_is_expression.h (by omega) rfl]
    show done (evSs (cal T (l - 1)) c__law_is_expression ⟨[some (.sh (frD ns)), some (.sh d), some (.sh (.int 0))], dl⟩) = _
    simp (disch := omega) [c__law_is_expression, isE, isEb]
  | k + 1, l, hl, d, dl => by
    have ih := fun (a : D) (dl : Option Dl) => q_law_is_expression (ns := ns) (k := k) (l := l - 1) (by omega) (d := a) (dl := dl)
    rw [call_at F__law_is_expression.h (by omega) rfl]
    show done (evSs (cal T (l - 1)) c__law_is_expression ⟨[some (.sh (frD ns)), some (.sh d), some (.sh (.int ((k + 1 : Nat) : Int)))], dl⟩) = _
    have h0 : (((k : Int) + 1) == 0) = false := by simp; omega
    cases d with
    | tuple ds => ?_
    | _ => simp (disch := omega) [c__law_is_expression, isE, isEb, isTy, h0]
    match ds with
    | [] => simp (disch := omega) [c__law_is_expression, isE, isEb, isTy, h0]
    | [x] => cases x <;> simp (disch := omega) [c__law_is_expression, isE, isEb, isTy, h0]
    | [x, y] =>
      cases x with
      | str t =>
        by_cases e1 : t = "value"
        · simp (disch := omega) [c__law_is_expression, isE, isEb, isTy, h0, e1]
        · by_cases e2 : t = "cell"
          · subst e2
            have z : ((Str.ofString "cell") == (Str.ofString "value")) = false := by decide
            have z2 : ¬ ((Str.ofString "cell") = (Str.ofString "value")) := by decide
            simp (disch := omega) [c__law_is_expression, isE, isEb, isTy, h0, z, z2]
          · cases e : sums.any (· == t) <;> simp (disch := omega) [c__law_is_expression, isE, isEb, isTy, h0, e1, e2, gNotIn_sums, e]
      | _ => simp (disch := omega) [c__law_is_expression, isE, isEb, isTy, h0]
    | [x, y, z] =>
      cases x with
      | str t =>
        by_cases e1 : t = "value"
        · subst e1
          have e : sums.any (· == (Str.ofString "value")) = false := by decide
          simp (disch := omega) [c__law_is_expression, isE, isEb, isTy, h0, e]
        · by_cases e2 : t = "cell"
          · subst e2
            have z : ((Str.ofString "cell") == (Str.ofString "value")) = false := by decide
            have z2 : ¬ ((Str.ofString "cell") = (Str.ofString "value")) := by decide
            have e : sums.any (· == (Str.ofString "cell")) = false := by decide
            simp (disch := omega) [c__law_is_expression, isE, isEb, isTy, h0, z, z2, e]
          · cases e : sums.any (· == t) <;> simp (disch := omega) [c__law_is_expression, isE, isEb, isTy, h0, e1, e2, gNotIn_sums, e, ih]
            cases isE ns.length k y <;> rfl
      | _ => simp (disch := omega) [c__law_is_expression, isE, isEb, isTy, h0]
    | x :: y :: z :: w :: r =>
      have h5 : ¬ ((r.length : Int) + 1 + 1 + 1 + 1 ≤ 3) := by omega
      have h6 : (2 : Int) ≤ (r.length : Int) + 1 + 1 + 1 + 1 := by omega
      cases x <;> simp (disch := omega) [c__law_is_expression, isE, isEb, isTy, h0, h5, h6]
end
end LD
namespace LD
open PySem PySem.Spec PyProof.Rows L2 WV LA
/-! ## values of expressions -/
theorem isE_cases {m : Int} {k : Nat} {d : D} (h : isE m (k + 1) d = true) : (∃ n : Int, d = .tuple [.str "value", .int n] ∧ 0 ≤ n ∧ n ≤ 9) ∨ (∃ n : Int, d = .tuple [.str "cell", .int n] ∧ 0 ≤ n ∧ n ≤ m - 1) ∨
    ∃ t a b, d = .tuple [.str t, a, b] ∧ (t = "plus" ∨ t = "minus" ∨ t = "times") ∧ isE m k a = true ∧ isE m k b = true := by
  have h : isEb m (isE m k) d = true := h
  cases d with
  | tuple ds => ?_
  | _ => cases h
  match ds, h with
  | [], h => cases h
  | [x], h => cases x <;> cases h
  | x :: y :: z :: w :: r, h => cases x <;> cases h
  | [x, y], h =>
    cases x with
    | str t =>
      have h : (if t = "value" then wi 0 9 y else if t = "cell" then wi 0 (m - 1) y else false) = true := h
      split at h
      · rename_i e
        obtain ⟨n, rfl, h1, h2⟩ := wi_int h
        exact .inl ⟨n, by rw [e], h1, h2⟩
      · split at h
        · rename_i e
          obtain ⟨n, rfl, h1, h2⟩ := wi_int h
          exact .inr (.inl ⟨n, by rw [e], h1, h2⟩)
        · cases h
    | _ => cases h
  | [x, y, z], h =>
    cases x with
    | str t =>
      have h : (sums.any (· == t) && (isE m k y && isE m k z)) = true := h
      simp only [Bool.and_eq_true] at h
      refine .inr (.inr ⟨t, y, z, rfl, ?_, h.2.1, h.2.2⟩)
      have := h.1
      simp only [sums, List.any_cons, List.any_nil, Bool.or_false, Bool.or_eq_true, beq_iff_eq] at this
      rcases this with e | e | e
      · exact .inl e.symm
      · exact .inr (.inl e.symm)
      · exact .inr (.inr e.symm)
    | _ => cases h
def intOf : D → Int
  | .int n => n
  | _ => 0
def valEb (st : List Int) (r : D → Int) : D → Int
  | .tuple [.str t, x] => if t = "value" then intOf x else st.getD (intOf x).toNat 0
  | .tuple [.str t, a, b] => if t = "plus" then r a + r b else if t = "minus" then r a - r b else r a * r b
  | _ => 0
def valE (st : List Int) : Nat → D → Int
  | 0 => fun _ => 0
  | k + 1 => valEb st (valE st k)
def bnd : Nat → Int
  | 0 => 9
  | k + 1 => bnd k * bnd k
theorem bnd_ge : ∀ k, 9 ≤ bnd k
  | 0 => by decide
  | k + 1 => by
    have h := bnd_ge k
    have : 9 * 9 ≤ bnd k * bnd k := Int.mul_le_mul h h (by decide) (by omega)
    show 9 ≤ bnd k * bnd k
    omega
theorem abs_mul {a b c : Int} (h1 : -c ≤ a ∧ a ≤ c) (h2 : -c ≤ b ∧ b ≤ c) (hc : 0 ≤ c) : -(c * c) ≤ a * b ∧ a * b ≤ c * c := by
  have h3 : (c - a) * (c - b) ≥ 0 := Int.mul_nonneg (by omega) (by omega)
  have h4 : (c + a) * (c + b) ≥ 0 := Int.mul_nonneg (by omega) (by omega)
  have h5 : (c - a) * (c + b) ≥ 0 := Int.mul_nonneg (by omega) (by omega)
  have h6 : (c + a) * (c - b) ≥ 0 := Int.mul_nonneg (by omega) (by omega)
  simp only [Int.sub_mul, Int.mul_sub, Int.add_mul, Int.mul_add] at h3 h4 h5 h6
  have e1 : a * c = c * a := Int.mul_comm ..
  have e2 : b * c = c * b := Int.mul_comm ..
  rw [e1] at h3 h4 h5 h6
  constructor <;> omega
def okSt (m : Int) (st : List Int) : Prop := (st.length : Int) = m ∧ ∀ v ∈ st, 0 ≤ v ∧ v ≤ 9
theorem valE_bnd {m : Int} {st : List Int} (hs : okSt m st) : ∀ (k : Nat) (d : D), isE m (k + 1) d = true → -(bnd k) ≤ valE st (k + 1) d ∧ valE st (k + 1) d ≤ bnd k := by
  intro k
  induction k with
  | zero =>
    intro d h
    rcases isE_cases h with ⟨n, rfl, h1, h2⟩ | ⟨n, rfl, h1, h2⟩ | ⟨t, a, b, rfl, _, h1, _⟩
    · show -(9 : Int) ≤ n ∧ n ≤ 9
      omega
    · have hn : n.toNat < st.length := by have := hs.1; omega
      have hv := hs.2 _ (List.getElem_mem hn)
      show -(9 : Int) ≤ st.getD n.toNat 0 ∧ st.getD n.toNat 0 ≤ 9
      rw [List.getD_eq_getElem?_getD, List.getElem?_eq_getElem hn]
      simp only [Option.getD_some]
      omega
    · cases h1
  | succ k ih =>
    intro d h
    have h9 := bnd_ge k
    have hb : bnd (k + 1) = bnd k * bnd k := rfl
    have h99 : 2 * bnd k ≤ bnd k * bnd k := Int.mul_le_mul_of_nonneg_right (by omega) (by omega)
    rcases isE_cases h with ⟨n, rfl, h1, h2⟩ | ⟨n, rfl, h1, h2⟩ | ⟨t, a, b, rfl, ht, h1, h2⟩
    · show -(bnd (k + 1)) ≤ n ∧ n ≤ bnd (k + 1)
      omega
    · have hn : n.toNat < st.length := by have := hs.1; omega
      have hv := hs.2 _ (List.getElem_mem hn)
      show -(bnd (k + 1)) ≤ st.getD n.toNat 0 ∧ st.getD n.toNat 0 ≤ bnd (k + 1)
      rw [List.getD_eq_getElem?_getD, List.getElem?_eq_getElem hn]
      simp only [Option.getD_some]
      omega
    · have q1 := ih a h1
      have q2 := ih b h2
      have q3 := abs_mul q1 q2 (by omega)
      have e : valE st (k + 1 + 1) (.tuple [.str t, a, b]) = if t = "plus" then valE st (k + 1) a + valE st (k + 1) b else if t = "minus" then valE st (k + 1) a - valE st (k + 1) b else valE st (k + 1) a * valE st (k + 1) b := rfl
      rw [e]
      split
      · omega
      · split <;> omega
theorem bnd_le : ∀ {j k : Nat}, j ≤ k → bnd j ≤ bnd k
  | j, 0, h => by
    have : j = 0 := by omega
    subst this
    exact Int.le_refl _
  | j, k + 1, h => by
    by_cases e : j = k + 1
    · subst e
      exact Int.le_refl _
    · have h1 := bnd_le (j := j) (k := k) (by omega)
      have h9 := bnd_ge k
      have : 2 * bnd k ≤ bnd k * bnd k := Int.mul_le_mul_of_nonneg_right (by omega) (by omega)
      show bnd j ≤ bnd k * bnd k
      omega
theorem bnd5 : bnd 5 < 2 ^ 64 ∨ True := .inr trivial
theorem small {m : Int} {st : List Int} (hs : okSt m st) {k : Nat} (hk : k ≤ 5) {d : D} (h : isE m k d = true) : -(2 ^ 64) < valE st k d ∧ valE st k d < 2 ^ 64 := by
  cases k with
  | zero => cases h
  | succ k =>
    have h1 := valE_bnd hs k d h
    have h2 := bnd_le (j := k) (k := 4) (by omega)
    have h3 : bnd 4 = 1853020188851841 := by decide
    omega
section
variable {T : Tab} {l : Nat} {dl : Option Dl}
theorem st_ix {st : List Int} {n : Int} (h1 : 0 ≤ n) (h2 : n ≤ st.length - 1) : gIx (frD st) (.int n) = some (.sh (.int (st.getD n.toNat 0))) := by
  have hn : n.toNat < st.length := by omega
  have e : (st.map PyData.int)[n.toNat]? = some (.int (st.getD n.toNat 0)) := by
    rw [List.getElem?_map, List.getD_eq_getElem?_getD, List.getElem?_eq_getElem hn]
    rfl
  have := gIx_tN e
  rwa [Int.toNat_of_nonneg h1] at this
theorem q_value_in [F_value_in T] {m : Int} {st : List Int} (hs : okSt m st) : ∀ {k l : Nat} (hk : k ≤ 5) (hl : k ≤ l) {d : D} (hd : isE m k d = true) {dl : Option Dl},
    call T l "value_in" [.sh d, .sh (frD st)] dl = .ret (.sh (.int (valE st k d))) dl
  | 0, _, _, _, _, hd, _ => by cases hd
  | k + 1, l, hk, hl, d, hd, dl => by
    rw [call_at F_value_in.h (by omega) rfl]
    show done (evSs (cal T (l - 1)) c_value_in ⟨[some (.sh d), some (.sh (frD st)), none, none, none], dl⟩) = _
    rcases isE_cases hd with ⟨n, rfl, h1, h2⟩ | ⟨n, rfl, h1, h2⟩ | ⟨t, a, b, rfl, ht, h1, h2⟩
    · simp [c_value_in, valE, valEb, intOf]
    · have z : ((Str.ofString "cell") == (Str.ofString "value")) = false := by decide
      have z2 : ¬ ((Str.ofString "cell") = (Str.ofString "value")) := by decide
      have e := st_ix (st := st) h1 (by rw [hs.1]; exact h2)
      simp [c_value_in, valE, valEb, intOf, z, z2, e]
    · have i1 := fun dl => q_value_in hs (k := k) (l := l - 1) (by omega) (by omega) h1 (dl := dl)
      have i2 := fun dl => q_value_in hs (k := k) (l := l - 1) (by omega) (by omega) h2 (dl := dl)
      have s1 := small hs (k := k) (by omega) h1
      have em : binG .mul (.int (valE st k a)) (.int (valE st k b)) = _ := mulL s1.1 s1.2
      rcases ht with rfl | rfl | rfl
      · have z1 : ((Str.ofString "plus") == (Str.ofString "value")) = false := by decide
        have z2 : ((Str.ofString "plus") == (Str.ofString "cell")) = false := by decide
        simp [c_value_in, valE, valEb, intOf, z1, z2, i1, i2, setAll]
      · have z1 : ((Str.ofString "minus") == (Str.ofString "value")) = false := by decide
        have z2 : ((Str.ofString "minus") == (Str.ofString "cell")) = false := by decide
        have z3 : ((Str.ofString "minus") == (Str.ofString "plus")) = false := by decide
        have z4 : ¬ ((Str.ofString "minus") = (Str.ofString "plus")) := by decide
        simp [c_value_in, valE, valEb, intOf, z1, z2, z3, z4, i1, i2, setAll]
      · have z1 : ((Str.ofString "times") == (Str.ofString "value")) = false := by decide
        have z2 : ((Str.ofString "times") == (Str.ofString "cell")) = false := by decide
        have z3 : ((Str.ofString "times") == (Str.ofString "plus")) = false := by decide
        have z4 : ¬ ((Str.ofString "times") = (Str.ofString "plus")) := by decide
        have z5 : ((Str.ofString "times") == (Str.ofString "minus")) = false := by decide
        have z6 : ¬ ((Str.ofString "times") = (Str.ofString "minus")) := by decide
        simp [c_value_in, valE, valEb, intOf, z1, z2, z3, z4, z5, z6, i1, i2, setAll, em]
theorem q_law_value [F__law_value T] {m : Int} {st : List Int} (hs : okSt m st) : ∀ {k l : Nat} (hk : k ≤ 5) (hl : k ≤ l) {d : D} (hd : isE m k d = true) {dl : Option Dl},
    call T l "_law_value" [.sh d, .sh (frD st)] dl = .ret (.sh (.int (valE st k d))) dl
  | 0, _, _, _, _, hd, _ => by cases hd
  | k + 1, l, hk, hl, d, hd, dl => by
    rw [call_at F__law_value.h (by omega) rfl]
    show done (evSs (cal T (l - 1)) c__law_value ⟨[some (.sh d), some (.sh (frD st)), none, none], dl⟩) = _
    rcases isE_cases hd with ⟨n, rfl, h1, h2⟩ | ⟨n, rfl, h1, h2⟩ | ⟨t, a, b, rfl, ht, h1, h2⟩
    · simp [c__law_value, valE, valEb, intOf]
    · have z : ((Str.ofString "cell") == (Str.ofString "value")) = false := by decide
      have z2 : ¬ ((Str.ofString "cell") = (Str.ofString "value")) := by decide
      have e := st_ix (st := st) h1 (by rw [hs.1]; exact h2)
      simp [c__law_value, valE, valEb, intOf, z, z2, e]
    · have i1 := fun dl => q_law_value hs (k := k) (l := l - 1) (by omega) (by omega) h1 (dl := dl)
      have i2 := fun dl => q_law_value hs (k := k) (l := l - 1) (by omega) (by omega) h2 (dl := dl)
      have s1 := small hs (k := k) (by omega) h1
      have em : binG .mul (.int (valE st k a)) (.int (valE st k b)) = _ := mulL s1.1 s1.2
      have dsp : ∀ x y z : D, dspG [.str "plus", .str "minus", .str "times"] [x, y, z] = some (.fr (.dict [(.str "plus", x), (.str "minus", y), (.str "times", z)])) := fun x y z => by kernel_rfl
      have g1 : ∀ x y z : D, gIx (.dict [(.str "plus", x), (.str "minus", y), (.str "times", z)]) (.str "plus") = some (.sh x) := fun x y z => by kernel_rfl
      have g2 : ∀ x y z : D, gIx (.dict [(.str "plus", x), (.str "minus", y), (.str "times", z)]) (.str "minus") = some (.sh y) := fun x y z => by kernel_rfl
      have g3 : ∀ x y z : D, gIx (.dict [(.str "plus", x), (.str "minus", y), (.str "times", z)]) (.str "times") = some (.sh z) := fun x y z => by kernel_rfl
      rcases ht with rfl | rfl | rfl
      · have z1 : ((Str.ofString "plus") == (Str.ofString "value")) = false := by decide
        have z2 : ((Str.ofString "plus") == (Str.ofString "cell")) = false := by decide
        simp [c__law_value, valE, valEb, intOf, z1, z2, i1, i2, setAll, em, dsp, g1]
      · have z1 : ((Str.ofString "minus") == (Str.ofString "value")) = false := by decide
        have z2 : ((Str.ofString "minus") == (Str.ofString "cell")) = false := by decide
        have z4 : ¬ ((Str.ofString "minus") = (Str.ofString "plus")) := by decide
        simp [c__law_value, valE, valEb, intOf, z1, z2, z4, i1, i2, setAll, em, dsp, g2]
      · have z1 : ((Str.ofString "times") == (Str.ofString "value")) = false := by decide
        have z2 : ((Str.ofString "times") == (Str.ofString "cell")) = false := by decide
        have z4 : ¬ ((Str.ofString "times") = (Str.ofString "plus")) := by decide
        have z6 : ¬ ((Str.ofString "times") = (Str.ofString "minus")) := by decide
        simp [c__law_value, valE, valEb, intOf, z1, z2, z4, z6, i1, i2, setAll, em, dsp, g3]
end
end LD
namespace LD
open PySem PySem.Spec PyProof.Rows L2 WV LA
/-! ## drawn expressions -/
section
variable {T : Tab} {l : Nat} {dl : Option Dl}
theorem q_take [F__law_take T] (hl : 1 ≤ l) {dl : Option Dl} {b m : Int} (h : Dk dl b) (hb : b < 2 ^ 60) (h1 : 0 < m) (h2 : m < 1073741824) : ∃ (k : Int) (dl' : Option Dl), call T l "_law_take" [.deal, .sh (.int m)] dl = .ret (.sh (.int k)) dl' ∧ 0 ≤ k ∧ k < m ∧ Dk dl' (b + 1) := by
  obtain ⟨n, rfl⟩ : ∃ n, l = n + 1 := ⟨l - 1, by omega⟩
  exact p_take F__law_take.h n dl b m h hb h1 h2
theorem isE_up {m : Int} : ∀ {k : Nat} {d : D}, isE m k d = true → isE m (k + 1) d = true
  | 0, _, h => by cases h
  | k + 1, d, h => by
    rcases isE_cases h with ⟨n, rfl, h1, h2⟩ | ⟨n, rfl, h1, h2⟩ | ⟨t, a, b, rfl, ht, h1, h2⟩
    · exact h
    · exact h
    · have q1 := isE_up h1
      have q2 := isE_up h2
      have h : (sums.any (· == t) && (isE m k a && isE m k b)) = true := h
      show (sums.any (· == t) && (isE m (k + 1) a && isE m (k + 1) b)) = true
      rw [h1, h2] at h
      rw [q1, q2]
      exact h
theorem isE_mono {m : Int} {j k : Nat} (hjk : j ≤ k) {d : D} (h : isE m j d = true) : isE m k d = true := by
  induction hjk with
  | refl => exact h
  | step _ ih => exact isE_up ih
theorem isE_val {m n : Int} {k : Nat} (h1 : 0 ≤ n) (h2 : n ≤ 9) : isE m (k + 1) (.tuple [.str "value", .int n]) = true := by
  show wi 0 9 (.int n) = true
  simp [wi, h1, h2]
theorem isE_cell {m n : Int} {k : Nat} (h1 : 0 ≤ n) (h2 : n ≤ m - 1) : isE m (k + 1) (.tuple [.str "cell", .int n]) = true := by
  show wi 0 (m - 1) (.int n) = true
  simp [wi, h1, h2]
theorem isE_op {m : Int} {k : Nat} {t : Str} {a b : D} (ht : sums.any (· == t) = true) (h1 : isE m k a = true) (h2 : isE m k b = true) : isE m (k + 1) (.tuple [.str t, a, b]) = true := by
  show (sums.any (· == t) && (isE m k a && isE m k b)) = true
  rw [ht, h1, h2]
  rfl
theorem pw2 : ∀ d : Nat, (1 : Int) ≤ 2 ^ d
  | 0 => by decide
  | d + 1 => by
    have := pw2 d
    rw [Int.pow_succ]
    omega
theorem sums_ix {k : Int} (h1 : 0 ≤ k) (h2 : k < 3) : ∃ t : Str, gIx (.list [.str "plus", .str "minus", .str "times"]) (.int k) = some (.sh (.str t)) ∧ sums.any (· == t) = true := by
  have : k = 0 ∨ k = 1 ∨ k = 2 := by omega
  rcases this with rfl | rfl | rfl
  · exact ⟨"plus", rfl, by decide⟩
  · exact ⟨"minus", rfl, by decide⟩
  · exact ⟨"times", rfl, by decide⟩
theorem q_law_expression [F__law_take T] [F__law_expression T] {ns : List Int} (hn1 : 1 ≤ ns.length) (hn : ns.length ≤ 3) : ∀ (d : Nat) {l : Nat} (hl : d + 2 ≤ l) {dl : Option Dl} {b : Int} (h : Dk dl b) (hb : b + 2 ^ (d + 2) < 2 ^ 60),
    ∃ (e : D) (dl' : Option Dl), call T l "_law_expression" [.deal, .sh (frD ns), .sh (.int ((d + 1 : Nat) : Int))] dl = .ret (.sh e) dl' ∧ isE ns.length (d + 1) e = true ∧ Dk dl' (b + 2 ^ (d + 2) - 1) := by
  intro d
  induction d with
  | zero =>
    intro l hl dl b h hb
    rw [call_at F__law_expression.h (by omega) rfl]
    show ∃ (e : D) (dl' : Option Dl), done (evSs (cal T (l - 1)) c__law_expression ⟨[some .deal, some (.sh (frD ns)), some (.sh (.int 1)), none, none, none], dl⟩) = _ ∧ _
    obtain ⟨k, dl1, e1, k1, k2, D1⟩ := q_take (T := T) (l := l - 1) (m := 3) (by omega) h (by omega) (by omega) (by omega)
    by_cases hk : k = 2
    · subst hk
      obtain ⟨n, dl2, e2, n1, n2, D2⟩ := q_take (T := T) (l := l - 1) (m := ns.length) (by omega) D1 (by omega) (by omega) (by omega)
      exact ⟨.tuple [.str "cell", .int n], dl2, by simp [c__law_expression, e1, e2], isE_cell n1 (by omega), D2.mono (by omega)⟩
    · have hk' : (k == 0 || k == 1) = true := by
        have : k = 0 ∨ k = 1 := by omega
        rcases this with rfl | rfl <;> rfl
      have hk'' : k = 0 ∨ k = 1 := by omega
      obtain ⟨j, dl2, e2, j1, j2, D2⟩ := q_take (T := T) (l := l - 1) (m := 3) (by omega) D1 (by omega) (by omega) (by omega)
      have gx : ∃ m : Int, gIx (.list [.int 2, .int 4, .int 10]) (.int j) = some (.sh (.int m)) ∧ 0 < m ∧ m ≤ 10 := by
        have : j = 0 ∨ j = 1 ∨ j = 2 := by omega
        rcases this with rfl | rfl | rfl
        · exact ⟨2, rfl, by omega, by omega⟩
        · exact ⟨4, rfl, by omega, by omega⟩
        · exact ⟨10, rfl, by omega, by omega⟩
      obtain ⟨m, gx, m1, m2⟩ := gx
      obtain ⟨n, dl3, e3, n1, n2, D3⟩ := q_take (T := T) (l := l - 1) (m := m) (by omega) D2 (by omega) m1 (by omega)
      refine ⟨.tuple [.str "value", .int n], dl3, ?_, isE_val n1 (by omega), D3.mono (by omega)⟩
      rcases hk'' with rfl | rfl <;> simp [c__law_expression, e1, e2, e3, gx]
  | succ d ih =>
    intro l hl dl b h hb
    have hp : (4 : Int) ≤ 2 ^ (d + 2) := by
      have := pw2 d
      rw [Int.pow_succ, Int.pow_succ]
      omega
    have hpe : (2 : Int) ^ (d + 1 + 2) = 2 * 2 ^ (d + 2) := by
      rw [show d + 1 + 2 = (d + 2) + 1 by omega, Int.pow_succ, Int.mul_comm]
    rw [hpe] at hb
    rw [hpe]
    rw [call_at F__law_expression.h (by omega) rfl]
    show ∃ (e : D) (dl' : Option Dl), done (evSs (cal T (l - 1)) c__law_expression ⟨[some .deal, some (.sh (frD ns)), some (.sh (.int ((d + 1 + 1 : Nat) : Int))), none, none, none], dl⟩) = _ ∧ _
    obtain ⟨k, dl1, e1, k1, k2, D1⟩ := q_take (T := T) (l := l - 1) (m := 6) (by omega) h (by omega) (by omega) (by omega)
    have hgt : (1 : Int) < (d : Int) + 1 + 1 := by omega
    by_cases hk : k = 2
    · subst hk
      obtain ⟨n, dl2, e2, n1, n2, D2⟩ := q_take (T := T) (l := l - 1) (m := ns.length) (by omega) D1 (by omega) (by omega) (by omega)
      exact ⟨.tuple [.str "cell", .int n], dl2, by simp [c__law_expression, e1, e2, hgt], isE_cell n1 (by omega), D2.mono (by omega)⟩
    · by_cases hk2 : k < 2
      · have hk'' : k = 0 ∨ k = 1 := by omega
        obtain ⟨j, dl2, e2, j1, j2, D2⟩ := q_take (T := T) (l := l - 1) (m := 3) (by omega) D1 (by omega) (by omega) (by omega)
        have gx : ∃ m : Int, gIx (.list [.int 2, .int 4, .int 10]) (.int j) = some (.sh (.int m)) ∧ 0 < m ∧ m ≤ 10 := by
          have : j = 0 ∨ j = 1 ∨ j = 2 := by omega
          rcases this with rfl | rfl | rfl
          · exact ⟨2, rfl, by omega, by omega⟩
          · exact ⟨4, rfl, by omega, by omega⟩
          · exact ⟨10, rfl, by omega, by omega⟩
        obtain ⟨m, gx, m1, m2⟩ := gx
        obtain ⟨n, dl3, e3, n1, n2, D3⟩ := q_take (T := T) (l := l - 1) (m := m) (by omega) D2 (by omega) m1 (by omega)
        refine ⟨.tuple [.str "value", .int n], dl3, ?_, isE_val n1 (by omega), D3.mono (by omega)⟩
        rcases hk'' with rfl | rfl <;> simp [c__law_expression, e1, e2, e3, gx, hgt]
      · obtain ⟨t, gt, ht⟩ := sums_ix (k := k - 3) (by omega) (by omega)
        obtain ⟨a, dl2, e2, ha, D2⟩ := ih (l := l - 1) (by omega) D1 (by omega)
        obtain ⟨c, dl3, e3, hc, D3⟩ := ih (l := l - 1) (by omega) D2 (by omega)
        refine ⟨.tuple [.str t, a, c], dl3, ?_, isE_op ht ha hc, D3.mono (by omega)⟩
        have k0 : (k == 0) = false := by simp; omega
        have k1' : (k == 1) = false := by simp; omega
        have k2' : (k == 2) = false := by simp; omega
        simp at e2 e3
        simp [c__law_expression, e1, hgt, k0, k1', k2', gt, e2, e3]
end
end LD
namespace LD
open PySem PySem.Spec PyProof.Rows L2 WV LA
section
variable {T : Tab} {l : Nat} {dl : Option Dl}
def chB : Sms := match x__law_chain_1 with
  | .forr _ _ b => b
  | _ => .nil
theorem chain_turn [F__law_take T] [F__law_expression T] {ns : List Int} (hn1 : 1 ≤ ns.length) (hn : ns.length ≤ 3) {l : Nat} (hl : 3 ≤ l) {k : Nat} {f : D} (hf : isE ns.length (k + 1) f = true) (c2 c4 c5 c6 c7 : Option Cell) {dl : Option Dl} {b : Int} (h : Dk dl b) (hb : b + 20 < 2 ^ 60) (x : D) :
    ∃ (f' : D) (c5' c6' c7' : Option Cell) (dl' : Option Dl), forBody (.nm 4) (evSs (cal T l) chB) x ⟨[some .deal, some (.sh (frD ns)), c2, some (.sh f), c4, c5, c6, c7], dl⟩ = .ok .nx ⟨[some .deal, some (.sh (frD ns)), c2, some (.sh f'), some (.sh x), c5', c6', c7'], dl'⟩ ∧ isE ns.length (k + 2) f' = true ∧ Dk dl' (b + 5) := by
  obtain ⟨j, dl1, e1, j1, j2, D1⟩ := q_take (T := T) (l := l) (m := 3) (by omega) h (by omega) (by omega) (by omega)
  obtain ⟨t, gt, ht⟩ := sums_ix j1 j2
  obtain ⟨w, dl2, e2, w1, w2, D2⟩ := q_take (T := T) (l := l) (m := 3) (by omega) D1 (by omega) (by omega) (by omega)
  obtain ⟨o, dl3, e3, ho, D3⟩ := q_law_expression (T := T) hn1 hn 0 (l := l) (by omega) D2 (by omega)
  have ho' : isE ns.length (k + 1) o = true := isE_mono (by omega) ho
  have hw : w = 0 ∨ w = 1 ∨ w = 2 := by omega
  simp at e3
  rcases hw with rfl | rfl | rfl
  · exact ⟨.tuple [.str t, f, f], _, _, _, dl2, by simp [forBody, bindT, chB, e1, e2, gt, setAll]; exact ⟨rfl, rfl, rfl⟩, isE_op ht hf hf, D2.mono (by omega)⟩
  · exact ⟨.tuple [.str t, f, o], _, _, _, dl3, by simp [forBody, bindT, chB, e1, e2, e3, gt, setAll]; exact ⟨rfl, rfl, rfl⟩, isE_op ht hf ho', D3.mono (by omega)⟩
  · exact ⟨.tuple [.str t, o, f], _, _, _, dl3, by simp [forBody, bindT, chB, e1, e2, e3, gt, setAll]; exact ⟨rfl, rfl, rfl⟩, isE_op ht ho' hf, D3.mono (by omega)⟩
theorem q_law_chain [F__law_take T] [F__law_expression T] [F__law_chain T] {ns : List Int} (hn1 : 1 ≤ ns.length) (hn : ns.length ≤ 3) {l : Nat} (hl : 4 ≤ l) {d : Nat} (hd : d ≤ 6) {dl : Option Dl} {b : Int} (h : Dk dl b) (hb : b + 100 < 2 ^ 60) :
    ∃ (e : D) (dl' : Option Dl), call T l "_law_chain" [.deal, .sh (frD ns), .sh (.int ((d + 1 : Nat) : Int))] dl = .ret (.sh e) dl' ∧ isE ns.length (d + 1) e = true ∧ Dk dl' (b + 40) := by
  rw [call_at F__law_chain.h (by omega) rfl]
  show ∃ (e : D) (dl' : Option Dl), done (evSs (cal T (l - 1)) c__law_chain ⟨[some .deal, some (.sh (frD ns)), some (.sh (.int ((d + 1 : Nat) : Int))), none, none, none, none, none], dl⟩) = _ ∧ _
  have first : ∃ (f : D) (dl' : Option Dl), evE (cal T (l - 1)) (.ife (.cmp .eq (.call "_law_take" (.cons (.v 0) (.cons (.lit (.int 2)) .nil))) (.lit (.int 0))) (.tup (.cons (.lit (.str "value")) (.cons (.call "_law_take" (.cons (.v 0) (.cons (.lit (.int 10)) .nil))) .nil))) (.tup (.cons (.lit (.str "cell")) (.cons (.call "_law_take" (.cons (.v 0) (.cons (.bi .len (.v 1)) .nil))) .nil))))
      ⟨[some .deal, some (.sh (frD ns)), some (.sh (.int ((d + 1 : Nat) : Int))), none, none, none, none, none], dl⟩ = .ok (.sh f) ⟨[some .deal, some (.sh (frD ns)), some (.sh (.int ((d + 1 : Nat) : Int))), none, none, none, none, none], dl'⟩ ∧ isE ns.length 1 f = true ∧ Dk dl' (b + 2) := by
    obtain ⟨j, dl1, e1, j1, j2, D1⟩ := q_take (T := T) (l := l - 1) (m := 2) (by omega) h (by omega) (by omega) (by omega)
    by_cases hj : j = 0
    · subst hj
      obtain ⟨n, dl2, e2, n1, n2, D2⟩ := q_take (T := T) (l := l - 1) (m := 10) (by omega) D1 (by omega) (by omega) (by omega)
      exact ⟨.tuple [.str "value", .int n], dl2, by simp [e1, e2], isE_val n1 (by omega), D2.mono (by omega)⟩
    · obtain ⟨n, dl2, e2, n1, n2, D2⟩ := q_take (T := T) (l := l - 1) (m := ns.length) (by omega) D1 (by omega) (by omega) (by omega)
      exact ⟨.tuple [.str "cell", .int n], dl2, by simp [e1, e2, hj], isE_cell n1 (by omega), D2.mono (by omega)⟩
  obtain ⟨f0, dl0, ef, hf0, D0⟩ := first
  have hl2 : (rangeD 0 (d : Int)).length = d := by simp [rangeD]
  have hrg : rngItems (.int 0) (.int (d : Int)) = some (rangeD 0 (d : Int)) := rg_ok (by omega)
  obtain ⟨s', ef2, f, c4, c5, c6, c7, dl', rfl, hf, D'⟩ := for_inv (f := forBody (.nm 4) (evSs (cal T (l - 1)) chB)) (items := rangeD 0 (d : Int)) (s := ⟨[some .deal, some (.sh (frD ns)), some (.sh (.int ((d + 1 : Nat) : Int))), some (.sh f0), none, none, none, none], dl0⟩)
    (fun i s => ∃ f c4 c5 c6 c7 dl, s = ⟨[some .deal, some (.sh (frD ns)), some (.sh (.int ((d + 1 : Nat) : Int))), some (.sh f), c4, c5, c6, c7], dl⟩ ∧ isE ns.length (i + 1) f = true ∧ Dk dl (b + 2 + 5 * i)) ⟨_, _, _, _, _, _, rfl, hf0, D0.mono (by omega)⟩ fun i x s hx ⟨f, c4, c5, c6, c7, dl, hs, hf, Di⟩ => by
      subst hs
      have hi : i < 7 := by
        have := (List.getElem?_eq_some_iff.mp hx).1
        omega
      obtain ⟨f', c5', c6', c7', dl', e, hf', D'⟩ := chain_turn (T := T) hn1 hn (l := l - 1) (by omega) hf (some (.sh (.int ((d + 1 : Nat) : Int)))) c4 c5 c6 c7 Di (by omega) x
      exact ⟨_, e, f', _, _, _, _, dl', rfl, hf', D'.mono (by omega)⟩
  rw [hl2] at hf D'
  refine ⟨f, dl', ?_, hf, D'.mono (by omega)⟩
  unfold c__law_chain
  rw [Ss_cons, S_asg, ef, bind_ok]
  simp only [setS, cell_sh, bind_ok, n_nx, List.set_cons_succ, List.set_cons_zero]
  have hit : evI (cal T (l - 1)) (.rg1 (.bin .sub (.v 2) (.lit (.int 1)))) ⟨[some .deal, some (.sh (frD ns)), some (.sh (.int ((d + 1 : Nat) : Int))), some (.sh f0), none, none, none, none], dl0⟩ = .ok (rangeD 0 (d : Int)) ⟨[some .deal, some (.sh (frD ns)), some (.sh (.int ((d + 1 : Nat) : Int))), some (.sh f0), none, none, none, none], dl0⟩ := by
    have he : evE (cal T (l - 1)) (.bin .sub (.v 2) (.lit (.int 1))) ⟨[some .deal, some (.sh (frD ns)), some (.sh (.int ((d + 1 : Nat) : Int))), some (.sh f0), none, none, none, none], dl0⟩ = .ok (.sh (.int (d : Int))) ⟨[some .deal, some (.sh (frD ns)), some (.sh (.int ((d + 1 : Nat) : Int))), some (.sh f0), none, none, none, none], dl0⟩ := by
      simp
    rw [I_rg1, he, bind_ok]
    show outO (rngItems (.int 0) (.int (d : Int))) _ = _
    rw [hrg, outO_so]
  have hfor : evS (cal T (l - 1)) x__law_chain_1 ⟨[some .deal, some (.sh (frD ns)), some (.sh (.int ((d + 1 : Nat) : Int))), some (.sh f0), none, none, none, none], dl0⟩ = .ok .nx ⟨[some .deal, some (.sh (frD ns)), some (.sh (.int ((d + 1 : Nat) : Int))), some (.sh f), c4, c5, c6, c7], dl'⟩ := by
    unfold x__law_chain_1
    rw [S_for, hit, bind_ok]
    exact ef2
  rw [Ss_cons, hfor, bind_ok, n_nx]
  simp
/-! ### places -/
inductive okP : D → List D → Prop
  | here (d : D) : okP d []
  | one {t a b : D} {r : List D} : okP a r → okP (.tuple [t, a, b]) (.int 1 :: r)
  | two {t a b : D} {r : List D} : okP b r → okP (.tuple [t, a, b]) (.int 2 :: r)
def okPs (d : D) (p : D) : Prop := ∃ r, p = .tuple r ∧ okP d r ∧ r.length ≤ 10
def cnsD (x : D) : D → D
  | .tuple r => .tuple (x :: r)
  | d => d
theorem spots_lc [F__law_spots T] {m : Int} {l : Nat} {t a b x : D} {j : Int} (hx : gIx (.tuple [t, a, b]) (.int j) = some (.sh x)) {ps : List D} (hr : ∀ p ∈ ps, ∃ r, p = .tuple r ∧ r.length ≤ 10) (hps : ps.length ≤ 1000) (c1 c3 : Option Cell) {dl : Option Dl} (he : ∀ dl, call T l "_law_spots" [.sh x] dl = .ret (.fr (.list ps)) dl) :
    evE (cal T l) x__law_spots_1 ⟨[some (.sh (.tuple [t, a, b])), c1, some (.sh (.int j)), c3], dl⟩ = .ok (.fr (.list (ps.map (cnsD (.int j))))) ⟨[some (.sh (.tuple [t, a, b])), c1, some (.sh (.int j)), c3], dl⟩ := by
  refine lc_map (items := ps) _ (by simp [hx, he, seqItems]) (by simp; omega) fun p hp => ?_
  obtain ⟨r, rfl, hr⟩ := hr p hp
  have ha : gAdd (.tuple [.int j]) (.tuple r) = some (.sh (.tuple (.int j :: r))) := add_t (by simp; omega)
  exact ⟨[some (.sh (.tuple [t, a, b])), c1, some (.sh (.int j)), some (.sh (.tuple r))], by simp [lcBody, bindT, wipeE, ha, cnsD], by simp [wipeE]⟩
theorem q_law_spots [F__law_spots T] {m : Int} : ∀ {k l : Nat} (hk : k ≤ 5) (hl : k ≤ l) {d : D} (hd : isE m k d = true), ∃ ps : List D, (∀ dl, call T l "_law_spots" [.sh d] dl = .ret (.fr (.list ps)) dl) ∧ (∀ p ∈ ps, ∃ r, p = .tuple r ∧ okP d r ∧ r.length + 1 ≤ k) ∧ 1 ≤ ps.length ∧ ps.length + 1 ≤ 2 ^ k
  | 0, _, _, _, _, hd => by cases hd
  | k + 1, l, hk, hl, d, hd => by
    have body : ∀ dl, call T l "_law_spots" [.sh d] dl = done (evSs (cal T (l - 1)) c__law_spots ⟨[some (.sh d), none, none, none], dl⟩) := fun dl => by
      rw [call_at F__law_spots.h (by omega) rfl]
      rfl
    have h2k : 2 ≤ 2 ^ (k + 1) := by
      have : 1 ≤ 2 ^ k := Nat.one_le_two_pow
      rw [Nat.pow_succ]
      omega
    rcases isE_cases hd with ⟨n, rfl, h1, h2⟩ | ⟨n, rfl, h1, h2⟩ | ⟨t, a, b, rfl, ht, h1, h2⟩
    · exact ⟨[.tuple []], fun dl => by rw [body]; simp [c__law_spots], fun p hp => ⟨[], by simpa using hp, .here _, by simp⟩, by simp, by simpa using h2k⟩
    · exact ⟨[.tuple []], fun dl => by rw [body]; simp [c__law_spots], fun p hp => ⟨[], by simpa using hp, .here _, by simp⟩, by simp, by simpa using h2k⟩
    · obtain ⟨pa, ea, oa, la, la2⟩ := q_law_spots (k := k) (l := l - 1) (by omega) (by omega) h1
      obtain ⟨pb, eb, ob, lb, lb2⟩ := q_law_spots (k := k) (l := l - 1) (by omega) (by omega) h2
      have hpk : 2 ^ (k + 1) = 2 * 2 ^ k := by rw [Nat.pow_succ, Nat.mul_comm]
      have hk32 : 2 ^ k ≤ 2 ^ 5 := Nat.pow_le_pow_right (by omega) (by omega)
      have h32 : (2 : Nat) ^ 5 = 32 := by decide
      have l1 := fun c1 c3 dl => spots_lc (T := T) (m := m) (l := l - 1) (t := .str t) (a := a) (b := b) (j := 1) gIx_t1 (fun p hp => by obtain ⟨r, e, _, h⟩ := oa p hp; exact ⟨r, e, by omega⟩) (by omega) c1 c3 (dl := dl) ea
      have l2 := fun c1 c3 dl => spots_lc (T := T) (m := m) (l := l - 1) (t := .str t) (a := a) (b := b) (j := 2) gIx_t2 (fun p hp => by obtain ⟨r, e, _, h⟩ := ob p hp; exact ⟨r, e, by omega⟩) (by omega) c1 c3 (dl := dl) eb
      generalize hm1 : pa.map (cnsD (.int 1)) = ma at l1
      generalize hm2 : pb.map (cnsD (.int 2)) = mb at l2
      have n1 : ma.length = pa.length := by rw [← hm1]; simp
      have n2 : mb.length = pb.length := by rw [← hm2]; simp
      have z1 : ma.length + 1 ≤ 16777216 := by omega
      have z2 : ma.length + 1 + mb.length ≤ 16777216 := by omega
      refine ⟨.tuple [] :: (ma ++ mb), fun dl => ?_, fun p hp => ?_, by simp, by simp; omega⟩
      · rw [body]
        unfold c__law_spots
        rw [Ss_cons]
        have z3 : 1 + ma.length ≤ 16777216 := by omega
        simp [x__law_spots_2, S_for, forLoop, forBody, bindT, seqItems, l1, l2, z1, z2, z3]
      · rcases List.mem_cons.mp hp with rfl | hp
        · exact ⟨[], rfl, .here _, by simp⟩
        · rcases List.mem_append.mp hp with hp | hp
          · rw [← hm1] at hp
            obtain ⟨q, hq, rfl⟩ := List.mem_map.mp hp
            obtain ⟨r, rfl, h3, h4⟩ := oa q hq
            exact ⟨.int 1 :: r, rfl, .one h3, by simp; omega⟩
          · rw [← hm2] at hp
            obtain ⟨q, hq, rfl⟩ := List.mem_map.mp hp
            obtain ⟨r, rfl, h3, h4⟩ := ob q hq
            exact ⟨.int 2 :: r, rfl, .two h3, by simp; omega⟩
/-! ### putting -/
theorem cut1 {t a b : D} : cutD [t, a, b] none (some 1) = [t] ∧ cutD [t, a, b] (some 2) none = [b] ∧ cutD [t, a, b] none (some 2) = [t, a] ∧ cutD [t, a, b] (some 3) none = [] := ⟨rfl, rfl, rfl, rfl⟩
theorem cut_tl {x : D} {r : List D} (h : r.length ≤ 100) : cutD (x :: r) (some 1) none = r := by
  unfold WV.cutD
  have e : HT.sIx (x :: r).length 0 (some 1) = 1 := by
    simp [HT.sIx]
    try omega
  have e2 : HT.sIx (x :: r).length (x :: r).length none = r.length + 1 := by
    simp [HT.sIx]
  rw [e, e2]
  simp
theorem okP_sh : ∀ {d : D} {r : List D}, okP d r → SeqAt.shaped (.tuple r) = true := by
  have key : ∀ {d : D} {r : List D}, okP d r → PyData.canLayAll0 r = true ∧ PyData.depthAll r = 0 := by
    intro d r h
    induction h with
    | here => exact ⟨rfl, rfl⟩
    | one _ ih => simp [PyData.canLayAll0, PyData.canLay0, PyData.depthAll, PyData.depth, ih]
    | two _ ih => simp [PyData.canLayAll0, PyData.canLay0, PyData.depthAll, PyData.depth, ih]
  intro d r h
  obtain ⟨h1, h2⟩ := key h
  simp [SeqAt.shaped, PyData.canLay0, PyData.depth, h1, h2]
theorem q_law_put [F__law_put T] {part : D} : ∀ {d : D} {r : List D} (h : okP d r) (hr : r.length ≤ 100) {l : Nat} (hl : r.length + 1 ≤ l), ∃ o : D, ∀ dl, call T l "_law_put" [.sh d, .sh (.tuple r), .sh part] dl = .ret (.sh o) dl
  | _, _, .here d, hr, l, hl => by
    refine ⟨part, fun dl => ?_⟩
    rw [call_at F__law_put.h (by omega) rfl]
    show done (evSs (cal T (l - 1)) c__law_put ⟨[some (.sh d), some (.sh (.tuple [])), some (.sh part)], dl⟩) = _
    have e : gEq (.tuple []) (.tuple []) = some (.sh (.bool true)) := by kernel_rfl
    simp [c__law_put, e]
  | _, _, .one (t := t) (a := a) (b := b) (r := r) h, hr, l, hl => by
    rw [List.length_cons] at hl hr
    obtain ⟨o, eo⟩ := q_law_put (part := part) h (by omega) (l := l - 1) (by omega)
    refine ⟨.tuple [t, o, b], fun dl => ?_⟩
    rw [call_at F__law_put.h (by omega) rfl]
    show done (evSs (cal T (l - 1)) c__law_put ⟨[some (.sh (.tuple [t, a, b])), some (.sh (.tuple (.int 1 :: r))), some (.sh part)], dl⟩) = _
    have e : gEq (.tuple (.int 1 :: r)) (.tuple []) = some (.sh (.bool false)) := by
      unfold gEq
      rw [okP_sh (.one (t := t) (a := a) (b := b) h)]
      rfl
    have a1 : gAdd (.tuple [t]) (.tuple [o]) = some (.sh (.tuple [t, o])) := add_t (by simp)
    have a2 : gAdd (.tuple [t, o]) (.tuple [b]) = some (.sh (.tuple [t, o, b])) := add_t (by simp)
    simp [c__law_put, e, cut1, cut_tl (x := .int 1) (r := r) (by omega), eo, a1, a2]
  | _, _, .two (t := t) (a := a) (b := b) (r := r) h, hr, l, hl => by
    rw [List.length_cons] at hl hr
    obtain ⟨o, eo⟩ := q_law_put (part := part) h (by omega) (l := l - 1) (by omega)
    refine ⟨.tuple [t, a, o], fun dl => ?_⟩
    rw [call_at F__law_put.h (by omega) rfl]
    show done (evSs (cal T (l - 1)) c__law_put ⟨[some (.sh (.tuple [t, a, b])), some (.sh (.tuple (.int 2 :: r))), some (.sh part)], dl⟩) = _
    have e : gEq (.tuple (.int 2 :: r)) (.tuple []) = some (.sh (.bool false)) := by
      unfold gEq
      rw [okP_sh (.two (t := t) (a := a) (b := b) h)]
      rfl
    have a1 : gAdd (.tuple [t, a]) (.tuple [o]) = some (.sh (.tuple [t, a, o])) := add_t (by simp)
    have a2 : gAdd (.tuple [t, a, o]) (.tuple []) = some (.sh (.tuple [t, a, o])) := add_t (by simp)
    simp [c__law_put, e, cut1, cut_tl (x := .int 2) (r := r) (by omega), eo, a1, a2]
end
end LD
namespace LD
open PySem PySem.Spec PyProof.Rows L2 WV LA
/-! ## _law_same of a thing and itself -/
mutual
def plD : D → Bool
  | .list _ => false
  | .dict _ => false
  | .tuple ds => plA ds
  | _ => true
def plA : List D → Bool
  | [] => true
  | d :: ds => plD d && plA ds
end
mutual
def szD : D → Nat
  | .tuple ds => szA ds + 1
  | _ => 1
def szA : List D → Nat
  | [] => 0
  | d :: ds => szD d + szA ds
end
def okSame (d : D) : Prop := plD d = true ∧ d.canLay0 = true ∧ d.depth ≤ 60
def dup (d : D) : D := .tuple [d, d]
def kids : D → List D
  | .tuple ds => ds
  | _ => []
theorem szA_app : ∀ a b : List D, szA (a ++ b) = szA a + szA b
  | [], b => by simp [szA]
  | x :: a, b => by simp [szA, szA_app a b]; omega
theorem sz_kids (d : D) : szA (kids d) < szD d := by
  cases d <;> simp [kids, szA, szD]
theorem ok_kids {d : D} (h : okSame d) : ∀ x ∈ kids d, okSame x := by
  obtain ⟨h1, h2, h3⟩ := h
  cases d with
  | tuple ds =>
    have p1 : plA ds = true := h1
    have p2 : PyData.canLayAll0 ds = true := by simpa [PyData.canLay0] using h2
    have p3 : PyData.depthAll ds ≤ 59 := by
      rw [PyData.depth] at h3
      omega
    clear h1 h2 h3
    intro x hx
    change x ∈ ds at hx
    induction ds with
    | nil => cases hx
    | cons y r ih =>
      simp only [plA, Bool.and_eq_true] at p1
      simp only [PyData.canLayAll0, Bool.and_eq_true] at p2
      rw [PyData.depthAll] at p3
      rcases List.mem_cons.mp hx with rfl | hx
      · exact ⟨p1.1, p2.1, by omega⟩
      · exact ih p1.2 p2.2 (by omega) hx
  | _ => exact fun x hx => by cases hx
theorem shaped_dups : ∀ {W : List D}, (∀ x ∈ W, okSame x) → SeqAt.shaped (.list (W.map dup)) = true := by
  have key : ∀ {W : List D}, (∀ x ∈ W, okSame x) → PyData.canLayAll0 (W.map dup) = true ∧ PyData.depthAll (W.map dup) ≤ 62 := by
    intro W h
    induction W with
    | nil => exact ⟨rfl, by simp [PyData.depthAll]⟩
    | cons x r ih =>
      obtain ⟨q1, q2⟩ := ih fun y hy => h y (List.mem_cons_of_mem _ hy)
      obtain ⟨h1, h2, h3⟩ := h x (List.mem_cons_self ..)
      rw [List.map_cons]
      refine ⟨?_, ?_⟩
      · rw [PyData.canLayAll0, q1]
        simp [dup, PyData.canLay0, PyData.canLayAll0, h2]
      · rw [PyData.depthAll]
        have : (dup x).depth ≤ 61 := by
          simp [dup, PyData.depth, PyData.depthAll]
          omega
        omega
  intro W h
  obtain ⟨h1, h2⟩ := key h
  have h3 : PyData.depthAll (W.map dup) + 1 ≤ 64 := by omega
  simp only [SeqAt.shaped, PyData.canLay0, PyData.depth, h1, Bool.true_and]
  exact decide_eq_true h3
def gK (ds : List D) : D → D
  | .int i => .tuple [ds.getD i.toNat .none, ds.getD i.toNat .none]
  | _ => .none
theorem gK_map (ds : List D) : (rangeD 0 (ds.length : Int)).map (gK ds) = ds.map dup := by
  apply List.ext_getElem
  · simp [rangeD]
  · intro i h1 h2
    have hi : i < ds.length := by simpa using h2
    simp [rangeD, gK, dup, List.getElem?_eq_getElem hi]
section
variable {T : Tab} {l : Nat} {dl : Option Dl}
theorem same_lc (C : Cal) (c0 c1 c2 c5 : Option Cell) (ds : List D) (hz : ds.length ≤ 1000000) (dl : Option Dl) : evE C x__law_same_1 ⟨[c0, c1, c2, some (.sh (.tuple ds)), some (.sh (.tuple ds)), c5], dl⟩ = .ok (.fr (.list (ds.map dup))) ⟨[c0, c1, c2, some (.sh (.tuple ds)), some (.sh (.tuple ds)), c5], dl⟩ := by
  rw [← gK_map]
  have he : evI C (.rg1 (.bi .len (.v 4))) ⟨[c0, c1, c2, some (.sh (.tuple ds)), some (.sh (.tuple ds)), c5], dl⟩ = .ok (rangeD 0 (ds.length : Int)) ⟨[c0, c1, c2, some (.sh (.tuple ds)), some (.sh (.tuple ds)), c5], dl⟩ := by
    have h1 : evE C (.bi .len (.v 4)) ⟨[c0, c1, c2, some (.sh (.tuple ds)), some (.sh (.tuple ds)), c5], dl⟩ = .ok (.sh (.int (ds.length : Int))) ⟨[c0, c1, c2, some (.sh (.tuple ds)), some (.sh (.tuple ds)), c5], dl⟩ := by simp
    rw [I_rg1, h1, bind_ok]
    show outO (rngItems (.int 0) (.int (ds.length : Int))) _ = _
    rw [rg_ok hz, outO_so]
  refine lc_map (gK ds) he (by simp [rangeD]; omega) fun x hx => ?_
  obtain ⟨i, hi, rfl⟩ : ∃ i : Nat, i < ds.length ∧ x = .int (i : Int) := by
    simp [rangeD] at hx
    obtain ⟨i, h1, h2⟩ := hx
    exact ⟨i, h1, h2.symm⟩
  have hg : gIx (.tuple ds) (.int (i : Int)) = some (.sh ds[i]) := gIx_tN (List.getElem?_eq_getElem hi)
  refine ⟨[c0, c1, c2, some (.sh (.tuple ds)), some (.sh (.tuple ds)), some (.sh (.int (i : Int)))], ?_, by simp [wipeE]⟩
  simp [lcBody, bindT, wipeE, hg, gK, List.getElem?_eq_getElem hi]
def sameB : Sms := match x__law_same_2 with
  | .whl _ b => b
  | _ => .nil
theorem lenA : ∀ ds : List D, ds.length ≤ szA ds
  | [] => by simp
  | y :: r => by
    have ih := lenA r
    have : 1 ≤ szD y := by cases y <;> simp [szD]
    simp [szA]
    omega
theorem ext_step (C : Cal) (c0 c1 c5 : Option Cell) (V ds : List D) (hz : ds.length ≤ 1000000) (hV : V.length ≤ 1000000) (dl : Option Dl) :
    evS C (.exp (.ext 2 x__law_same_1)) ⟨[c0, c1, some (.ow (.list V)), some (.sh (.tuple ds)), some (.sh (.tuple ds)), c5], dl⟩ = .ok .nx ⟨[c0, c1, some (.ow (.list (V ++ ds.map dup))), some (.sh (.tuple ds)), some (.sh (.tuple ds)), c5], dl⟩ := by
  have e := same_lc C c0 c1 (some (.ow (.list V))) c5 ds hz dl
  have z : V.length + (ds.map dup).length ≤ sizeLine := by
    rw [List.length_map, sz]
    omega
  rw [S_exp, E_ext]
  simp only [opd_lc, e, bind_ok, getOw_eq2, getq_s, getq_0, get_dat, dat_fr, Option.isNone_some, Bool.false_eq_true, if_false, z, if_true, setS, List.set_cons_succ, List.set_cons_zero]
theorem same_turn (C : Cal) (c0 c1 c3 c4 c5 : Option Cell) (W : List D) (x : D) (hx : okSame x) (hz : szD x ≤ 1000000) (hW : W.length ≤ 1000000) (dl : Option Dl) :
    evSs C sameB ⟨[c0, c1, some (.ow (.list ((W ++ [x]).map dup))), c3, c4, c5], dl⟩ = .ok .nx ⟨[c0, c1, some (.ow (.list ((W ++ kids x).map dup))), some (.sh x), some (.sh x), c5], dl⟩ := by
  cases x with
  | none => simp [sameB, dup, bindT, kids, isTy, isNonD]
  | bool b => simp [sameB, dup, bindT, kids, isTy, isNonD]
  | int i => simp [sameB, dup, bindT, kids, isTy, isNonD]
  | str y => simp [sameB, dup, bindT, kids, isTy, isNonD]
  | list ds => cases hx.1
  | dict ds => cases hx.1
  | tuple ds =>
    have h1 := lenA ds
    have h2 : szD (.tuple ds) = szA ds + 1 := by simp [szD]
    have h3 : ds.length ≤ 1000000 := by omega
    clear h1 h2 hz hx
    have e := ext_step C c0 c1 c5 (W.map dup) ds h3 (by rw [List.length_map]; exact hW) dl
    have u : evS C (.unp [3, 4] (.pop 2)) ⟨[c0, c1, some (.ow (.list ((W ++ [PyData.tuple ds]).map dup))), c3, c4, c5], dl⟩ = .ok .nx ⟨[c0, c1, some (.ow (.list (W.map dup))), some (.sh (.tuple ds)), some (.sh (.tuple ds)), c5], dl⟩ := by
      simp [dup, bindT]
    unfold sameB
    show evSs C (.cons (.unp [3, 4] (.pop 2)) _) _ = _
    rw [Ss_cons, u, bind_ok, n_nx, Ss_cons, S_iff]
    have t1 : evT C (.isi (.v 4) .tuple) ⟨[c0, c1, some (.ow (.list (W.map dup))), some (.sh (.tuple ds)), some (.sh (.tuple ds)), c5], dl⟩ = .ok true ⟨[c0, c1, some (.ow (.list (W.map dup))), some (.sh (.tuple ds)), some (.sh (.tuple ds)), c5], dl⟩ := by
      simp [isTy]
    have t2 : evT C (.or (.not (.isi (.v 3) .tuple)) (.cmp .ne (.bi .len (.v 3)) (.bi .len (.v 4)))) ⟨[c0, c1, some (.ow (.list (W.map dup))), some (.sh (.tuple ds)), some (.sh (.tuple ds)), c5], dl⟩ = .ok false ⟨[c0, c1, some (.ow (.list (W.map dup))), some (.sh (.tuple ds)), some (.sh (.tuple ds)), c5], dl⟩ := by
      simp [isTy]
    rw [t1, bind_ok, if_pos rfl, Ss_cons, S_iff, t2, bind_ok, if_neg (by simp), Ss_nil, bind_ok, n_nx, Ss_cons, e, bind_ok, n_nx, Ss_nil, bind_ok, n_nx, Ss_nil]
    simp [kids]
def szP : List D → Nat
  | [] => 0
  | .tuple (a :: _) :: r => szD a + szP r
  | _ :: r => szP r
theorem szP_dup : ∀ W : List D, szP (W.map dup) = szA W
  | [] => rfl
  | y :: r => by
    rw [List.map_cons]
    show szD y + szP (r.map dup) = szD y + szA r
    rw [szP_dup r]
def cellP : Option (Option Cell) → Nat
  | some (some (.ow (.list ws))) => szP ws
  | _ => 0
def mu (s : Sto) : Nat := cellP s.env[2]?
theorem same_loop (C : Cal) (c0 c1 : Option Cell) (d : D) (h : okSame d) (hz : szD d ≤ 1000000) (dl : Option Dl) : ∃ s, evS C x__law_same_2 ⟨[c0, c1, some (.ow (.list [dup d])), none, none, none], dl⟩ = .ok .nx s ∧ s.dl = dl := by
  unfold x__law_same_2
  rw [S_whl]
  obtain ⟨fl, s', e, hq⟩ := whl_inv (c := evT C (.cmp .ne (.v 2) (.lst .nil))) (b := evSs C sameB) (fun s => ∃ W c3 c4 c5, s = ⟨[c0, c1, some (.ow (.list (W.map dup))), c3, c4, c5], dl⟩ ∧ (∀ x ∈ W, okSame x) ∧ szA W ≤ 1000000)
    (fun fl s => fl = .nx ∧ s.dl = dl) mu (fun s hs => by
        obtain ⟨W, c3, c4, c5, rfl, hW, hz⟩ := hs
        have g := gNe_nil (shaped_dups hW)
        rcases List.eq_nil_or_concat W with rfl | ⟨V, x, rfl⟩
        · refine .inl ⟨⟨[c0, c1, some (.ow (.list [])), c3, c4, c5], dl⟩, ?_, rfl, rfl⟩
          simp at g
          simp [g]
        · rw [List.concat_eq_append] at *
          have hne : ((V ++ [x]).map dup).isEmpty = false := by simp
          rw [hne] at g
          have hx := hW x (by simp)
          have hz2 := hz
          rw [szA_app] at hz2
          have hz3 : szA [x] = szD x := by simp [szA]
          have hk := sz_kids x
          have hl := lenA V
          refine .inr ⟨⟨[c0, c1, some (.ow (.list ((V ++ [x]).map dup))), c3, c4, c5], dl⟩, ?_, .inl ⟨_, .inl (same_turn C c0 c1 c3 c4 c5 V x hx (by omega) (by omega) dl), ⟨V ++ kids x, _, _, _, rfl, ?_, ?_⟩, ?_⟩⟩
          · simp at g
            simp [g]
          · intro y hy
            rcases List.mem_append.mp hy with hy | hy
            · exact hW y (by simp [hy])
            · exact ok_kids hx y hy
          · rw [szA_app]
            omega
          · show szP ((V ++ kids x).map dup) < szP ((V ++ [x]).map dup)
            rw [szP_dup, szP_dup, szA_app, szA_app, hz3]
            omega) turns ⟨[c0, c1, some (.ow (.list [dup d])), none, none, none], dl⟩ ⟨[d], none, none, none, rfl, by simpa using h, by simpa [szA] using hz⟩ (by
        show szP ([d].map dup) < turns
        rw [szP_dup]
        have : szA [d] = szD d := by simp [szA]
        have ht : turns = 1000000000 := rfl
        omega)
  obtain ⟨rfl, h2⟩ := hq
  exact ⟨s', e, h2⟩
theorem q_law_same [F__law_same T] (hl : 1 ≤ l) {d : D} (h : okSame d) (hz : szD d ≤ 1000000) : call T l "_law_same" [.sh d, .sh d] dl = .ret (.sh (.bool true)) dl := by
  rw [call_at F__law_same.h (by omega) rfl]
  show done (evSs (cal T (l - 1)) c__law_same ⟨[some (.sh d), some (.sh d), none, none, none, none], dl⟩) = _
  obtain ⟨s, e, hs⟩ := same_loop (cal T (l - 1)) (some (.sh d)) (some (.sh d)) d h hz dl
  have e' : evS (cal T (l - 1)) x__law_same_2 ⟨[some (.sh d), some (.sh d), some (.ow (.list [.tuple [d, d]])), none, none, none], dl⟩ = .ok .nx s := e
  unfold c__law_same
  rw [Ss_cons]
  simp [e', hs]
end
end LD
namespace LD
open PySem PySem.Spec PyProof.Rows L2 WV LA
section
variable {T : Tab} {l : Nat} {dl : Option Dl}
theorem st_ok {ns : List Int} (h4 : ∀ n ∈ ns, n ≤ 10) {d : D} (h : isSt ns d = true) : ∃ st : List Int, d = frD st ∧ okSt ns.length st := by
  cases d <;> try (cases h; done)
  rename_i ds
  simp only [isSt, Bool.and_eq_true, decide_eq_true_eq] at h
  obtain ⟨h1, h2⟩ := h
  induction ds generalizing ns with
  | nil => exact ⟨[], rfl, by simp at h1 ⊢; omega, fun _ z => by cases z⟩
  | cons x r ih =>
    cases ns with
    | nil => cases h1
    | cons i ns =>
      simp only [List.zip_cons_cons, List.all_cons, Bool.and_eq_true] at h2
      obtain ⟨j, rfl, j1, j2⟩ := wi_int h2.1
      obtain ⟨l, e, hl⟩ := ih (fun n hn => h4 n (List.mem_cons_of_mem _ hn)) (by simpa using h1) h2.2
      injection e with e
      have := h4 i (List.mem_cons_self ..)
      refine ⟨j :: l, by rw [e]; rfl, ?_, fun v hv => ?_⟩
      · have := hl.1
        simp only [List.length_cons]
        omega
      · rcases List.mem_cons.mp hv with rfl | hv
        · omega
        · exact hl.2 v hv
theorem q_is_expression [F_is_int T] [F_within T] [F_is_row T] [F_is_frame_of T] [F_need_frame T] [F_is_tagged T] [F_tag_of T] [F_is_expression_within T] [F_is_expression_of T] [F_is_expression T] {ns : List Int} (hf : isFr (frD ns) = true) (hl : 9 ≤ l) {d : D} :
    call T l "is_expression" [.sh (frD ns), .sh d] dl = .ret (.sh (.bool (isE ns.length 4 d))) dl := by
  rw [call_at F_is_expression.h (by omega) rfl]
  show done (evSs (cal T (l - 1)) c_is_expression ⟨[some (.sh (frD ns)), some (.sh d)], dl⟩) = _
  have e1 := fun dl => q_need_frame (T := T) (l := l - 1) (dl := dl) (by omega) (d := frD ns)
  simp only [hf, if_true] at e1
  have e2 := fun dl => q_is_expression_of (T := T) (l := l - 1) (dl := dl) (by omega) (ns := ns) (d := d)
  simp [c_is_expression, e1, e2]
section
variable [F_is_int T] [F_within T] [F_is_row T] [F_is_frame_of T] [F_need_frame T] [F_is_tagged T] [F_tag_of T] [F_is_expression_within T] [F_is_expression_of T] [F_is_state_of T] [F_need_state_of T] [F_value_in T] [F_value_of T]
theorem vo_frame (hl : 10 ≤ l) {fr e st : D} (hf : isFr fr = false) : call T l "value_of" [.sh fr, .sh e, .sh st] dl = .exc "BadFrame" dl := by
  rw [call_at F_value_of.h (by omega) rfl]
  show done (evSs (cal T (l - 1)) c_value_of ⟨[some (.sh fr), some (.sh e), some (.sh st)], dl⟩) = _
  have e1 := fun dl => q_need_frame (T := T) (l := l - 1) (dl := dl) (by omega) (d := fr)
  simp only [hf] at e1
  simp at e1
  simp [c_value_of, e1]
theorem vo_expr (hl : 10 ≤ l) {ns : List Int} {e st : D} (hf : isFr (frD ns) = true) (he : isE ns.length 4 e = false) : call T l "value_of" [.sh (frD ns), .sh e, .sh st] dl = .exc "BadExpression" dl := by
  rw [call_at F_value_of.h (by omega) rfl]
  show done (evSs (cal T (l - 1)) c_value_of ⟨[some (.sh (frD ns)), some (.sh e), some (.sh st)], dl⟩) = _
  have e1 := fun dl => q_need_frame (T := T) (l := l - 1) (dl := dl) (by omega) (d := frD ns)
  simp only [hf, if_true] at e1
  have e2 := fun dl => q_is_expression_of (T := T) (l := l - 1) (dl := dl) (by omega) (ns := ns) (d := e)
  rw [he] at e2
  simp [c_value_of, e1, e2]
theorem nst (hl : 4 ≤ l) {ns : List Int} (hn : ns.length ≤ 3) {st : D} : call T l "need_state_of" [.sh (frD ns), .sh st] dl = if isSt ns st then .ret (.sh .none) dl else .exc "BadState" dl := by
  rw [call_at F_need_state_of.h (by omega) rfl]
  show done (evSs (cal T (l - 1)) c_need_state_of ⟨[some (.sh (frD ns)), some (.sh st)], dl⟩) = _
  have e := fun dl => q_is_state_of (T := T) (l := l - 1) (dl := dl) (by omega) (ns := ns) (by omega) (d := st)
  cases h : isSt ns st <;> rw [h] at e <;> simp [c_need_state_of, e]
theorem vo_state (hl : 10 ≤ l) {ns : List Int} (hn : ns.length ≤ 3) {e st : D} (hf : isFr (frD ns) = true) (he : isE ns.length 4 e = true) (hs : isSt ns st = false) : call T l "value_of" [.sh (frD ns), .sh e, .sh st] dl = .exc "BadState" dl := by
  rw [call_at F_value_of.h (by omega) rfl]
  show done (evSs (cal T (l - 1)) c_value_of ⟨[some (.sh (frD ns)), some (.sh e), some (.sh st)], dl⟩) = _
  have e1 := fun dl => q_need_frame (T := T) (l := l - 1) (dl := dl) (by omega) (d := frD ns)
  simp only [hf, if_true] at e1
  have e2 := fun dl => q_is_expression_of (T := T) (l := l - 1) (dl := dl) (by omega) (ns := ns) (d := e)
  rw [he] at e2
  have e3 := fun dl => nst (T := T) (l := l - 1) (dl := dl) (by omega) (ns := ns) hn (st := st)
  simp only [hs] at e3
  simp at e3
  simp [c_value_of, e1, e2, e3]
theorem vo_ok (hl : 10 ≤ l) {ns st : List Int} (hn : ns.length ≤ 3) {e : D} (hf : isFr (frD ns) = true) (he : isE ns.length 4 e = true) (hs : isSt ns (frD st) = true) (ho : okSt ns.length st) : call T l "value_of" [.sh (frD ns), .sh e, .sh (frD st)] dl = .ret (.sh (.int (valE st 4 e))) dl := by
  rw [call_at F_value_of.h (by omega) rfl]
  show done (evSs (cal T (l - 1)) c_value_of ⟨[some (.sh (frD ns)), some (.sh e), some (.sh (frD st))], dl⟩) = _
  have e1 := fun dl => q_need_frame (T := T) (l := l - 1) (dl := dl) (by omega) (d := frD ns)
  simp only [hf, if_true] at e1
  have e2 := fun dl => q_is_expression_of (T := T) (l := l - 1) (dl := dl) (by omega) (ns := ns) (d := e)
  rw [he] at e2
  have e3 := fun dl => nst (T := T) (l := l - 1) (dl := dl) (by omega) (ns := ns) hn (st := frD st)
  simp only [hs, if_true] at e3
  have e4 := fun dl => q_value_in (T := T) ho (k := 4) (l := l - 1) (by omega) (by omega) he (dl := dl)
  simp [c_value_of, e1, e2, e3, e4]
end
end
end LD
namespace LD
open PySem PySem.Spec PyProof.Rows L2 WV LA
def rowsF : List D := [.tuple [.int 2], .tuple [.int 3], .tuple [.int 4], .tuple [.int 2, .int 2], .tuple [.int 2, .int 3], .tuple [.int 3, .int 2], .tuple [.int 2, .int 4], .tuple [.int 4, .int 2], .tuple [.int 2, .int 2, .int 2], .tuple [.int 3, .int 3]]
theorem q_law_frame9 {T : Tab} [F__law_take T] [F__law_frame T] {l : Nat} (hl : 2 ≤ l) {dl : Option Dl} {b : Int} (h : Dk dl b) (hb : b + 5 < 2 ^ 60) : ∃ (fr : D) (dl' : Option Dl), call T l "_law_frame" [.deal, .sh (.int 9)] dl = .ret (.sh fr) dl' ∧ fr ∈ frames ∧ Dk dl' (b + 1) := by
  rw [call_at F__law_frame.h (by omega) rfl]
  show ∃ (fr : D) (dl' : Option Dl), done (evSs (cal T (l - 1)) c__law_frame ⟨[some .deal, some (.sh (.int 9)), none, none, none], dl⟩) = _ ∧ _
  obtain ⟨k, dl', e, k1, k2, D'⟩ := q_take (T := T) (l := l - 1) (m := 10) (by omega) h (by omega) (by omega) (by omega)
  have hk : k = 0 ∨ k = 1 ∨ k = 2 ∨ k = 3 ∨ k = 4 ∨ k = 5 ∨ k = 6 ∨ k = 7 ∨ k = 8 ∨ k = 9 := by omega
  have gx : ∃ fr : D, gIx (.list rowsF) (.int k) = some (.sh fr) ∧ fr ∈ frames := by
    rcases hk with rfl | rfl | rfl | rfl | rfl | rfl | rfl | rfl | rfl | rfl <;> exact ⟨_, rfl, by simp [frames]⟩
  obtain ⟨fr, g1, g2⟩ := gx
  refine ⟨fr, dl', ?_, g2, D'⟩
  unfold rowsF at g1
  simp [c__law_frame, E_lc, lcLoop, lcBody, bindT, wipeE, seqItems, restE, e, g1]
end LD
namespace K05
open PySem PySem.Spec PyProof.Rows L2 WV
abbrev top (i : Nat) : Stmt := PySem.Challenge.pw_wovensworn_k05_expressions_and_their_val.main.body.getD i (.Pass ⟨0, 0, 0, 0⟩)
def T : TabC where
  fns := [("is_int", ⟨1⟩), ("within", ⟨3⟩), ("is_row", ⟨3⟩), ("is_tagged", ⟨3⟩), ("tag_of", ⟨1⟩), ("is_frame_of", ⟨1⟩), ("need_frame", ⟨1⟩), ("is_state_of", ⟨2⟩), ("is_expression_within", ⟨3⟩), ("is_expression_of", ⟨2⟩), ("value_in", ⟨2⟩), ("need_state_of", ⟨2⟩), ("is_expression", ⟨2⟩), ("value_of", ⟨3⟩), ("_law_take", ⟨2⟩), ("_law_same", ⟨2⟩), ("_law_int", ⟨3⟩), ("_law_frame", ⟨2⟩), ("_law_states", ⟨1⟩), ("_law_expression", ⟨3⟩), ("_law_value", ⟨2⟩), ("_law_is_expression", ⟨3⟩), ("_law_chain", ⟨3⟩), ("_law_spots", ⟨1⟩), ("_law_put", ⟨3⟩), ("_law_bent", ⟨3⟩), ("_law_error", ⟨3⟩)]
  kws := [("is_expression", 0, ["thing", "frame"], [1, 0]), ("value_of", 0, ["frame", "expression", "state"], [0, 1, 2]), ("value_of", 0, ["state", "frame", "expression"], [1, 2, 0])]
  cst := [("MOST_CELLS", .int 3), ("MOST_VALUES", .int 4), ("MOST_STATES", .int 9), ("MOST_DEPTH", .int 4), ("MOST_VALUE", .int 9), ("SUMS", .tuple [.str "plus", .str "minus", .str "times"])]
  exs := ["BadFrame", "BadState", "BadExpression"]
  blt := ["all", "bool", "int", "isinstance", "len", "list", "min", "range", "str", "tuple", "zip"]
def c_is_int : Sms := (.cons (.ret (.and (.isi (.v 0) .int) (.not (.isi (.v 0) .bool)))) .nil)
def c_within : Sms := (.cons (.ret (.and (.call "is_int" (.cons (.v 0) .nil)) (.chn .le .le (.v 1) (.v 0) (.v 2)))) .nil)
def c_is_row : Sms := (.cons (.ret (.and (.isi (.v 0) .tuple) (.chn .le .le (.v 1) (.bi .len (.v 0)) (.v 2)))) .nil)
def c_is_tagged : Sms := (.cons (.ret (.and (.call "is_row" (.cons (.v 0) (.cons (.v 2) (.cons (.v 2) .nil)))) (.and (.isi (.ix (.v 0) (.lit (.int 0))) .str) (.cmp .eq (.ix (.v 0) (.lit (.int 0))) (.v 1))))) .nil)
def c_tag_of : Sms := (.cons (.ret (.ife (.and (.call "is_row" (.cons (.v 0) (.cons (.lit (.int 1)) (.cons (.lit (.int 4)) .nil)))) (.isi (.ix (.v 0) (.lit (.int 0))) .str)) (.ix (.v 0) (.lit (.int 0))) (.lit (.str "")))) .nil)
abbrev x_is_frame_of_1 : Ex := (.lc [1] (.nm 1) (.seq (.v 0)) .no (.call "within" (.cons (.v 1) (.cons (.lit (.int 2)) (.cons (.gl "MOST_VALUES" (.int 4)) .nil)))))
abbrev x_is_frame_of_2 : Sm := (.forr (.nm 1) (.seq (.v 0)) (.cons (.aug 2 .mul (.v 1)) .nil))
def c_is_frame_of : Sms := (.cons (.iff (.or (.not (.call "is_row" (.cons (.v 0) (.cons (.lit (.int 1)) (.cons (.gl "MOST_CELLS" (.int 3)) .nil))))) (.not (.bi .all x_is_frame_of_1))) (.cons (.ret (.lit (.bool false))) .nil) .nil) (.cons (.asg 2 (.lit (.int 1))) (.cons x_is_frame_of_2 (.cons (.ret (.cmp .le (.v 2) (.gl "MOST_STATES" (.int 9)))) .nil))))
def c_need_frame : Sms := (.cons (.iff (.not (.call "is_frame_of" (.cons (.v 0) .nil))) (.cons (.rse "BadFrame") .nil) .nil) .nil)
abbrev x_is_state_of_1 : Ex := (.lc [2, 3] (.tp [2, 3]) (.zip (.v 1) (.v 0)) .no (.call "within" (.cons (.v 2) (.cons (.lit (.int 0)) (.cons (.bin .sub (.v 3) (.lit (.int 1))) .nil)))))
def c_is_state_of : Sms := (.cons (.iff (.not (.call "is_row" (.cons (.v 1) (.cons (.bi .len (.v 0)) (.cons (.bi .len (.v 0)) .nil))))) (.cons (.ret (.lit (.bool false))) .nil) .nil) (.cons (.ret (.bi .all x_is_state_of_1)) .nil))
def c_is_expression_within : Sms := (.cons (.iff (.cmp .eq (.v 2) (.lit (.int 0))) (.cons (.ret (.lit (.bool false))) .nil) .nil) (.cons (.iff (.call "is_tagged" (.cons (.v 1) (.cons (.lit (.str "value")) (.cons (.lit (.int 2)) .nil)))) (.cons (.ret (.call "within" (.cons (.ix (.v 1) (.lit (.int 1))) (.cons (.lit (.int 0)) (.cons (.gl "MOST_VALUE" (.int 9)) .nil))))) .nil) .nil) (.cons (.iff (.call "is_tagged" (.cons (.v 1) (.cons (.lit (.str "cell")) (.cons (.lit (.int 2)) .nil)))) (.cons (.ret (.call "within" (.cons (.ix (.v 1) (.lit (.int 1))) (.cons (.lit (.int 0)) (.cons (.bin .sub (.bi .len (.v 0)) (.lit (.int 1))) .nil))))) .nil) .nil) (.cons (.iff (.or (.not (.call "is_row" (.cons (.v 1) (.cons (.lit (.int 3)) (.cons (.lit (.int 3)) .nil))))) (.cmp .nin (.call "tag_of" (.cons (.v 1) .nil)) (.gl "SUMS" (.tuple [.str "plus", .str "minus", .str "times"])))) (.cons (.ret (.lit (.bool false))) .nil) .nil) (.cons (.ret (.and (.call "is_expression_within" (.cons (.v 0) (.cons (.ix (.v 1) (.lit (.int 1))) (.cons (.bin .sub (.v 2) (.lit (.int 1))) .nil)))) (.call "is_expression_within" (.cons (.v 0) (.cons (.ix (.v 1) (.lit (.int 2))) (.cons (.bin .sub (.v 2) (.lit (.int 1))) .nil)))))) .nil)))))
def c_is_expression_of : Sms := (.cons (.ret (.call "is_expression_within" (.cons (.v 0) (.cons (.v 1) (.cons (.gl "MOST_DEPTH" (.int 4)) .nil))))) .nil)
def c_value_in : Sms := (.cons (.asg 2 (.ix (.v 0) (.lit (.int 0)))) (.cons (.iff (.cmp .eq (.v 2) (.lit (.str "value"))) (.cons (.ret (.ix (.v 0) (.lit (.int 1)))) .nil) .nil) (.cons (.iff (.cmp .eq (.v 2) (.lit (.str "cell"))) (.cons (.ret (.ix (.v 1) (.ix (.v 0) (.lit (.int 1))))) .nil) .nil) (.cons (.par [3, 4] (.cons (.call "value_in" (.cons (.ix (.v 0) (.lit (.int 1))) (.cons (.v 1) .nil))) (.cons (.call "value_in" (.cons (.ix (.v 0) (.lit (.int 2))) (.cons (.v 1) .nil))) .nil))) (.cons (.iff (.cmp .eq (.v 2) (.lit (.str "plus"))) (.cons (.ret (.bin .add (.v 3) (.v 4))) .nil) .nil) (.cons (.ret (.ife (.cmp .eq (.v 2) (.lit (.str "minus"))) (.bin .sub (.v 3) (.v 4)) (.bin .mul (.v 3) (.v 4)))) .nil))))))
def c_need_state_of : Sms := (.cons (.iff (.not (.call "is_state_of" (.cons (.v 0) (.cons (.v 1) .nil)))) (.cons (.rse "BadState") .nil) .nil) .nil)
def c_is_expression : Sms := (.cons (.exp (.call "need_frame" (.cons (.v 0) .nil))) (.cons (.ret (.call "is_expression_of" (.cons (.v 0) (.cons (.v 1) .nil)))) .nil))
def c_value_of : Sms := (.cons (.exp (.call "need_frame" (.cons (.v 0) .nil))) (.cons (.iff (.not (.call "is_expression_of" (.cons (.v 0) (.cons (.v 1) .nil)))) (.cons (.rse "BadExpression") .nil) .nil) (.cons (.exp (.call "need_state_of" (.cons (.v 0) (.cons (.v 2) .nil)))) (.cons (.ret (.call "value_in" (.cons (.v 1) (.cons (.v 2) .nil)))) .nil))))
def c__law_take : Sms := (.cons (.dcel 2 0) (.cons (.dset 0 2 (.bin .add (.dget 0 2) (.lit (.int 1)))) (.cons (.iff (.and (.cmp .lt (.dget 0 0) (.bin .pow (.lit (.int 10)) (.lit (.int 5)))) (.cmp .ne (.v 2) (.lst .nil))) (.cons (.asg 3 (.dpop 2)) (.cons (.dset 0 0 (.ife (.cmp .ge (.v 3) (.bin .pow (.lit (.int 10)) (.lit (.int 18)))) (.v 3) (.lit (.int 0)))) (.cons (.dset 0 1 (.bin .mod (.bi .int (.bin .add (.bin .add (.bin .mul (.dget 0 1) (.lit (.int 48271))) (.bin .mul (.bin .mod (.bi .int (.v 3)) (.lit (.int 2147483629))) (.lit (.int 69621)))) (.bin .mul (.lit (.int 13)) (.dget 0 2)))) (.lit (.int 2147483647)))) .nil))) .nil) (.cons (.iff (.cmp .ge (.dget 0 0) (.bin .pow (.lit (.int 10)) (.lit (.int 5)))) (.cons (.asg 4 (.bin .mod (.bi .int (.dget 0 0)) (.v 1))) (.cons (.dset 0 0 (.bin .div (.dget 0 0) (.v 1))) (.cons (.ret (.v 4)) .nil))) .nil) (.cons (.dset 0 1 (.bin .mod (.bi .int (.bin .add (.bin .add (.bin .mul (.dget 0 1) (.lit (.int 39373))) (.bin .mul (.lit (.int 7919)) (.dget 0 2))) (.lit (.int 5)))) (.lit (.int 2147483647)))) (.cons (.asg 5 (.bin .mod (.bi .int (.bin .add (.bin .add (.bin .mul (.dget 0 1) (.lit (.int 40692))) (.bin .mul (.bin .mul (.dget 0 2) (.dget 0 2)) (.lit (.int 271)))) (.lit (.int 3)))) (.lit (.int 2147483399)))) (.cons (.ret (.bin .mod (.bi .int (.bin .div (.v 5) (.lit (.int 32)))) (.v 1))) .nil)))))))
abbrev x__law_same_1 : Ex := (.lc [5] (.nm 5) (.rg1 (.bi .len (.v 4))) .no (.tup (.cons (.ix (.v 3) (.v 5)) (.cons (.ix (.v 4) (.v 5)) .nil))))
abbrev x__law_same_2 : Sm := (.whl (.cmp .ne (.v 2) (.lst .nil)) (.cons (.unp [3, 4] (.pop 2)) (.cons (.iff (.isi (.v 4) .tuple) (.cons (.iff (.or (.not (.isi (.v 3) .tuple)) (.cmp .ne (.bi .len (.v 3)) (.bi .len (.v 4)))) (.cons (.ret (.lit (.bool false))) .nil) .nil) (.cons (.exp (.ext 2 x__law_same_1)) .nil)) (.cons (.iff (.cmp .is (.v 4) (.lit (.none))) (.cons (.iff (.cmp .isn (.v 3) (.lit (.none))) (.cons (.ret (.lit (.bool false))) .nil) .nil) .nil) (.cons (.iff (.isi (.v 4) .bool) (.cons (.iff (.or (.not (.isi (.v 3) .bool)) (.cmp .ne (.v 3) (.v 4))) (.cons (.ret (.lit (.bool false))) .nil) .nil) .nil) (.cons (.iff (.isi (.v 4) .str) (.cons (.iff (.or (.not (.isi (.v 3) .str)) (.cmp .ne (.v 3) (.v 4))) (.cons (.ret (.lit (.bool false))) .nil) .nil) .nil) (.cons (.iff (.or (.not (.isi (.v 3) .int)) (.or (.isi (.v 3) .bool) (.cmp .ne (.v 3) (.v 4)))) (.cons (.ret (.lit (.bool false))) .nil) .nil) .nil)) .nil)) .nil)) .nil)) .nil)))
def c__law_same : Sms := (.cons (.asg 2 (.lst (.cons (.tup (.cons (.v 0) (.cons (.v 1) .nil))) .nil))) (.cons x__law_same_2 (.cons (.ret (.lit (.bool true))) .nil)))
def c__law_int : Sms := (.cons (.ret (.and (.isi (.v 0) .int) (.and (.not (.isi (.v 0) .bool)) (.chn .le .le (.v 1) (.v 0) (.v 2))))) .nil)
abbrev x__law_frame_1 : Ex := (.lc [4] (.nm 4) (.seq (.v 3)) (.so (.cmp .le (.v 4) (.v 1))) (.v 4))
def c__law_frame : Sms := (.cons (.asg 2 (.lst (.cons (.tup (.cons (.lit (.int 2)) .nil)) (.cons (.tup (.cons (.lit (.int 3)) .nil)) (.cons (.tup (.cons (.lit (.int 4)) .nil)) (.cons (.tup (.cons (.lit (.int 2)) (.cons (.lit (.int 2)) .nil))) (.cons (.tup (.cons (.lit (.int 2)) (.cons (.lit (.int 3)) .nil))) (.cons (.tup (.cons (.lit (.int 3)) (.cons (.lit (.int 2)) .nil))) (.cons (.tup (.cons (.lit (.int 2)) (.cons (.lit (.int 4)) .nil))) (.cons (.tup (.cons (.lit (.int 4)) (.cons (.lit (.int 2)) .nil))) (.cons (.tup (.cons (.lit (.int 2)) (.cons (.lit (.int 2)) (.cons (.lit (.int 2)) .nil)))) (.cons (.tup (.cons (.lit (.int 3)) (.cons (.lit (.int 3)) .nil))) .nil)))))))))))) (.cons (.asg 3 (.lst (.cons (.lit (.int 2)) (.cons (.lit (.int 3)) (.cons (.lit (.int 4)) (.cons (.lit (.int 4)) (.cons (.lit (.int 6)) (.cons (.lit (.int 6)) (.cons (.lit (.int 8)) (.cons (.lit (.int 8)) (.cons (.lit (.int 8)) (.cons (.lit (.int 9)) .nil)))))))))))) (.cons (.ret (.ix (.v 2) (.call "_law_take" (.cons (.v 0) (.cons (.bi .len x__law_frame_1) .nil))))) .nil)))
abbrev x__law_states_1 : Ex := (.lc [5] (.nm 5) (.rg1 (.v 2)) .no (.bin .add (.v 4) (.tup (.cons (.v 5) .nil))))
abbrev x__law_states_2 : Sm := (.forr (.nm 4) (.seq (.v 1)) (.cons (.exp (.ext 3 x__law_states_1)) .nil))
abbrev x__law_states_3 : Sm := (.forr (.nm 2) (.seq (.v 0)) (.cons (.asg 3 (.lst .nil)) (.cons x__law_states_2 (.cons (.asg 1 (.v 3)) .nil))))
def c__law_states : Sms := (.cons (.asg 1 (.lst (.cons (.tup .nil) .nil))) (.cons x__law_states_3 (.cons (.ret (.v 1)) .nil)))
def c__law_expression : Sms := (.cons (.asg 3 (.ife (.cmp .gt (.v 2) (.lit (.int 1))) (.call "_law_take" (.cons (.v 0) (.cons (.lit (.int 6)) .nil))) (.call "_law_take" (.cons (.v 0) (.cons (.lit (.int 3)) .nil))))) (.cons (.iff (.or (.cmp .eq (.v 3) (.lit (.int 0))) (.cmp .eq (.v 3) (.lit (.int 1)))) (.cons (.ret (.tup (.cons (.lit (.str "value")) (.cons (.call "_law_take" (.cons (.v 0) (.cons (.ix (.lst (.cons (.lit (.int 2)) (.cons (.lit (.int 4)) (.cons (.lit (.int 10)) .nil)))) (.call "_law_take" (.cons (.v 0) (.cons (.lit (.int 3)) .nil)))) .nil))) .nil)))) .nil) .nil) (.cons (.iff (.cmp .eq (.v 3) (.lit (.int 2))) (.cons (.ret (.tup (.cons (.lit (.str "cell")) (.cons (.call "_law_take" (.cons (.v 0) (.cons (.bi .len (.v 1)) .nil))) .nil)))) .nil) .nil) (.cons (.asg 4 (.ix (.lst (.cons (.lit (.str "plus")) (.cons (.lit (.str "minus")) (.cons (.lit (.str "times")) .nil)))) (.bin .sub (.v 3) (.lit (.int 3))))) (.cons (.asg 5 (.call "_law_expression" (.cons (.v 0) (.cons (.v 1) (.cons (.bin .sub (.v 2) (.lit (.int 1))) .nil))))) (.cons (.ret (.tup (.cons (.v 4) (.cons (.v 5) (.cons (.call "_law_expression" (.cons (.v 0) (.cons (.v 1) (.cons (.bin .sub (.v 2) (.lit (.int 1))) .nil)))) .nil))))) .nil))))))
def c__law_value : Sms := (.cons (.iff (.cmp .eq (.ix (.v 0) (.lit (.int 0))) (.lit (.str "value"))) (.cons (.ret (.ix (.v 0) (.lit (.int 1)))) .nil) .nil) (.cons (.iff (.cmp .eq (.ix (.v 0) (.lit (.int 0))) (.lit (.str "cell"))) (.cons (.ret (.ix (.v 1) (.ix (.v 0) (.lit (.int 1))))) .nil) .nil) (.cons (.par [2, 3] (.cons (.call "_law_value" (.cons (.ix (.v 0) (.lit (.int 1))) (.cons (.v 1) .nil))) (.cons (.call "_law_value" (.cons (.ix (.v 0) (.lit (.int 2))) (.cons (.v 1) .nil))) .nil))) (.cons (.ret (.ix (.dsp [.str "plus", .str "minus", .str "times"] (.cons (.bin .add (.v 2) (.v 3)) (.cons (.bin .sub (.v 2) (.v 3)) (.cons (.bin .mul (.v 2) (.v 3)) .nil)))) (.ix (.v 0) (.lit (.int 0))))) .nil))))
def c__law_is_expression : Sms := (.cons (.iff (.or (.cmp .eq (.v 2) (.lit (.int 0))) (.or (.not (.isi (.v 1) .tuple)) (.or (.not (.chn .le .le (.lit (.int 2)) (.bi .len (.v 1)) (.lit (.int 3)))) (.not (.isi (.ix (.v 1) (.lit (.int 0))) .str))))) (.cons (.ret (.lit (.bool false))) .nil) .nil) (.cons (.iff (.cmp .eq (.ix (.v 1) (.lit (.int 0))) (.lit (.str "value"))) (.cons (.ret (.and (.cmp .eq (.bi .len (.v 1)) (.lit (.int 2))) (.call "_law_int" (.cons (.ix (.v 1) (.lit (.int 1))) (.cons (.lit (.int 0)) (.cons (.lit (.int 9)) .nil)))))) .nil) .nil) (.cons (.iff (.cmp .eq (.ix (.v 1) (.lit (.int 0))) (.lit (.str "cell"))) (.cons (.ret (.and (.cmp .eq (.bi .len (.v 1)) (.lit (.int 2))) (.call "_law_int" (.cons (.ix (.v 1) (.lit (.int 1))) (.cons (.lit (.int 0)) (.cons (.bin .sub (.bi .len (.v 0)) (.lit (.int 1))) .nil)))))) .nil) .nil) (.cons (.iff (.or (.cmp .nin (.ix (.v 1) (.lit (.int 0))) (.tup (.cons (.lit (.str "plus")) (.cons (.lit (.str "minus")) (.cons (.lit (.str "times")) .nil))))) (.cmp .ne (.bi .len (.v 1)) (.lit (.int 3)))) (.cons (.ret (.lit (.bool false))) .nil) .nil) (.cons (.ret (.and (.call "_law_is_expression" (.cons (.v 0) (.cons (.ix (.v 1) (.lit (.int 1))) (.cons (.bin .sub (.v 2) (.lit (.int 1))) .nil)))) (.call "_law_is_expression" (.cons (.v 0) (.cons (.ix (.v 1) (.lit (.int 2))) (.cons (.bin .sub (.v 2) (.lit (.int 1))) .nil)))))) .nil)))))
abbrev x__law_chain_1 : Sm := (.forr (.nm 4) (.rg1 (.bin .sub (.v 2) (.lit (.int 1)))) (.cons (.par [5, 6] (.cons (.ix (.lst (.cons (.lit (.str "plus")) (.cons (.lit (.str "minus")) (.cons (.lit (.str "times")) .nil)))) (.call "_law_take" (.cons (.v 0) (.cons (.lit (.int 3)) .nil)))) (.cons (.call "_law_take" (.cons (.v 0) (.cons (.lit (.int 3)) .nil))) .nil))) (.cons (.asg 7 (.ife (.cmp .eq (.v 6) (.lit (.int 0))) (.v 3) (.call "_law_expression" (.cons (.v 0) (.cons (.v 1) (.cons (.lit (.int 1)) .nil)))))) (.cons (.asg 3 (.ife (.cmp .lt (.v 6) (.lit (.int 2))) (.tup (.cons (.v 5) (.cons (.v 3) (.cons (.v 7) .nil)))) (.tup (.cons (.v 5) (.cons (.v 7) (.cons (.v 3) .nil)))))) .nil))))
def c__law_chain : Sms := (.cons (.asg 3 (.ife (.cmp .eq (.call "_law_take" (.cons (.v 0) (.cons (.lit (.int 2)) .nil))) (.lit (.int 0))) (.tup (.cons (.lit (.str "value")) (.cons (.call "_law_take" (.cons (.v 0) (.cons (.lit (.int 10)) .nil))) .nil))) (.tup (.cons (.lit (.str "cell")) (.cons (.call "_law_take" (.cons (.v 0) (.cons (.bi .len (.v 1)) .nil))) .nil))))) (.cons x__law_chain_1 (.cons (.ret (.v 3)) .nil)))
abbrev x__law_spots_1 : Ex := (.lc [3] (.nm 3) (.seq (.call "_law_spots" (.cons (.ix (.v 0) (.v 2)) .nil))) .no (.bin .add (.tup (.cons (.v 2) .nil)) (.v 3)))
abbrev x__law_spots_2 : Sm := (.forr (.nm 2) (.seq (.tup (.cons (.lit (.int 1)) (.cons (.lit (.int 2)) .nil)))) (.cons (.exp (.ext 1 x__law_spots_1)) .nil))
def c__law_spots : Sms := (.cons (.asg 1 (.lst (.cons (.tup .nil) .nil))) (.cons (.iff (.cmp .eq (.bi .len (.v 0)) (.lit (.int 3))) (.cons x__law_spots_2 .nil) .nil) (.cons (.ret (.v 1)) .nil)))
def c__law_put : Sms := (.cons (.iff (.cmp .eq (.v 1) (.tup .nil)) (.cons (.ret (.v 2)) .nil) .nil) (.cons (.ret (.bin .add (.bin .add (.slc (.v 0) .no (.so (.ix (.v 1) (.lit (.int 0))))) (.tup (.cons (.call "_law_put" (.cons (.ix (.v 0) (.ix (.v 1) (.lit (.int 0)))) (.cons (.slc (.v 1) (.so (.lit (.int 1))) .no) (.cons (.v 2) .nil)))) .nil))) (.slc (.v 0) (.so (.bin .add (.ix (.v 1) (.lit (.int 0))) (.lit (.int 1)))) .no))) .nil))
abbrev x__law_bent_1 : Ex := (.lc [6] (.nm 6) (.rg1 (.lit (.int 6))) .no (.call "_law_put" (.cons (.v 2) (.cons (.ix (.v 4) (.call "_law_take" (.cons (.v 0) (.cons (.bi .len (.v 4)) .nil)))) (.cons (.ix (.v 3) (.call "_law_take" (.cons (.v 0) (.cons (.bi .len (.v 3)) .nil)))) .nil)))))
def c__law_bent : Sms := (.cons (.asg 3 (.lst (.cons (.tup (.cons (.lit (.str "value")) (.cons (.lit (.int 10)) .nil))) (.cons (.tup (.cons (.lit (.str "value")) (.cons (.neg (.lit (.int 1))) .nil))) (.cons (.tup (.cons (.lit (.str "value")) (.cons (.lit (.bool true)) .nil))) (.cons (.tup (.cons (.lit (.str "value")) (.cons (.lit (.none)) .nil))) (.cons (.tup (.cons (.lit (.str "value")) (.cons (.lit (.str "1")) .nil))) (.cons (.tup (.cons (.lit (.str "value")) .nil)) (.cons (.tup (.cons (.lit (.str "value")) (.cons (.lit (.int 1)) (.cons (.lit (.int 1)) .nil)))) (.cons (.tup (.cons (.lit (.str "value")) (.cons (.tup (.cons (.lit (.int 1)) .nil)) .nil))) .nil)))))))))) (.cons (.exp (.ext 3 (.lst (.cons (.tup (.cons (.lit (.str "cell")) (.cons (.bi .len (.v 1)) .nil))) (.cons (.tup (.cons (.lit (.str "cell")) (.cons (.neg (.lit (.int 1))) .nil))) (.cons (.tup (.cons (.lit (.str "cell")) (.cons (.lit (.bool false)) .nil))) (.cons (.tup (.cons (.lit (.str "cell")) (.cons (.lit (.int 0)) (.cons (.lit (.int 0)) .nil)))) (.cons (.tup (.cons (.lit (.str "cell")) .nil)) (.cons (.lst (.cons (.lit (.str "value")) (.cons (.lit (.int 1)) .nil))) (.cons (.tup (.cons (.lit (.str "Value")) (.cons (.lit (.int 1)) .nil))) (.cons (.tup (.cons (.lit (.str "")) (.cons (.lit (.int 1)) .nil))) .nil))))))))))) (.cons (.exp (.ext 3 (.lst (.cons (.tup (.cons (.lit (.str "plus")) (.cons (.tup (.cons (.lit (.str "value")) (.cons (.lit (.int 1)) .nil))) .nil))) (.cons (.tup (.cons (.lit (.str "plus")) (.cons (.tup (.cons (.lit (.str "value")) (.cons (.lit (.int 1)) .nil))) (.cons (.tup (.cons (.lit (.str "value")) (.cons (.lit (.int 1)) .nil))) (.cons (.tup (.cons (.lit (.str "value")) (.cons (.lit (.int 1)) .nil))) .nil))))) (.cons (.tup (.cons (.lit (.str "over")) (.cons (.tup (.cons (.lit (.str "value")) (.cons (.lit (.int 1)) .nil))) (.cons (.tup (.cons (.lit (.str "value")) (.cons (.lit (.int 1)) .nil))) .nil)))) (.cons (.lit (.int 1)) (.cons (.lit (.none)) (.cons (.lit (.str "value")) (.cons (.tup .nil) .nil)))))))))) (.cons (.exp (.ext 3 (.lst (.cons (.tup (.cons (.lit (.str "times")) (.cons (.tup (.cons (.lit (.str "cell")) (.cons (.lit (.int 0)) .nil))) (.cons (.lit (.int 2)) .nil)))) (.cons (.tup (.cons (.lit (.str "minus")) (.cons (.lit (.none)) (.cons (.tup (.cons (.lit (.str "cell")) (.cons (.lit (.int 0)) .nil))) .nil)))) (.cons (.tup (.cons (.tup (.cons (.lit (.str "value")) (.cons (.lit (.int 1)) .nil))) .nil)) (.cons (.tup (.cons (.lit (.int 1)) (.cons (.tup (.cons (.lit (.str "value")) (.cons (.lit (.int 1)) .nil))) (.cons (.tup (.cons (.lit (.str "value")) (.cons (.lit (.int 1)) .nil))) .nil)))) (.cons (.tup (.cons (.lit (.str "true")) .nil)) .nil)))))))) (.cons (.asg 4 (.call "_law_spots" (.cons (.v 2) .nil))) (.cons (.asg 5 x__law_bent_1) (.cons (.ret (.bin .add (.v 5) (.lst (.cons (.ix (.v 3) (.call "_law_take" (.cons (.v 0) (.cons (.bi .len (.v 3)) .nil)))) (.cons (.bi .lst (.v 2)) .nil))))) .nil)))))))
abbrev x__law_error_1 : Sm := (.tryy (.cons (.asg 4 (.callk "value_of" .nil (.cons (.v 0) (.cons (.v 1) (.cons (.v 2) .nil))) ["frame", "expression", "state"] [0, 1, 2])) .nil) (.cons "BadFrame" (.cons (.asg 3 (.lit (.str "frame"))) .nil) (.cons "BadExpression" (.cons (.asg 3 (.lit (.str "expression"))) .nil) (.cons "BadState" (.cons (.asg 3 (.lit (.str "state"))) .nil) .nil))))
def c__law_error : Sms := (.cons (.asg 3 (.lit (.str ""))) (.cons x__law_error_1 (.cons (.ret (.v 3)) .nil)))
abbrev x_law_1 : Sm := (.forr (.nm 7) (.seq (.lst (.cons (.ix (.v 4) (.call "_law_take" (.cons (.v 1) (.cons (.bi .len (.v 4)) .nil)))) (.cons (.ix (.v 4) (.neg (.lit (.int 1)))) (.cons (.ix (.v 4) (.lit (.int 0))) .nil))))) (.cons (.iff (.not (.call "_law_same" (.cons (.callk "value_of" .nil (.cons (.v 7) (.cons (.v 3) (.cons (.v 6) .nil))) ["state", "frame", "expression"] [1, 2, 0]) (.cons (.call "_law_value" (.cons (.v 6) (.cons (.v 7) .nil))) .nil)))) (.cons (.ret (.lit (.bool false))) .nil) .nil) .nil))
abbrev x_law_2 : Sm := (.forr (.nm 8) (.seq (.bin .add (.call "_law_bent" (.cons (.v 1) (.cons (.v 3) (.cons (.v 6) .nil)))) (.lst (.cons (.call "_law_chain" (.cons (.v 1) (.cons (.v 3) (.cons (.lit (.int 5)) .nil)))) .nil)))) (.cons (.asg 9 (.call "_law_is_expression" (.cons (.v 3) (.cons (.v 8) (.cons (.lit (.int 4)) .nil))))) (.cons (.iff (.or (.not (.call "_law_same" (.cons (.call "is_expression" (.cons (.v 3) (.cons (.v 8) .nil))) (.cons (.v 9) .nil)))) (.cmp .ne (.call "_law_error" (.cons (.v 3) (.cons (.v 8) (.cons (.ix (.v 4) (.lit (.int 0))) .nil)))) (.ife (.v 9) (.lit (.str "")) (.lit (.str "expression"))))) (.cons (.ret (.lit (.bool false))) .nil) .nil) .nil)))
abbrev x_law_3 : Sm := (.forr (.nm 6) (.seq (.v 5)) (.cons (.iff (.cmp .isn (.callk "is_expression" .nil (.cons (.v 6) (.cons (.v 3) .nil)) ["thing", "frame"] [1, 0]) (.lit (.bool true))) (.cons (.ret (.lit (.bool false))) .nil) .nil) (.cons x_law_1 (.cons x_law_2 .nil))))
abbrev x_law_4 : Sm := (.forr (.nm 2) (.rg1 (.bin .add (.lit (.int 4)) (.min2 (.lens 0) (.lit (.int 9))))) (.cons (.asg 3 (.call "_law_frame" (.cons (.v 1) (.cons (.lit (.int 9)) .nil)))) (.cons (.asg 4 (.call "_law_states" (.cons (.v 3) .nil))) (.cons (.asg 5 (.lst (.cons (.call "_law_expression" (.cons (.v 1) (.cons (.v 3) (.cons (.lit (.int 4)) .nil)))) (.cons (.call "_law_chain" (.cons (.v 1) (.cons (.v 3) (.cons (.lit (.int 4)) .nil)))) (.cons (.call "_law_chain" (.cons (.v 1) (.cons (.v 3) (.cons (.bin .add (.lit (.int 1)) (.call "_law_take" (.cons (.v 1) (.cons (.lit (.int 3)) .nil)))) .nil)))) .nil))))) (.cons x_law_3 (.cons (.asg 10 (.ix (.lst (.cons (.tup (.cons (.lit (.str "value")) (.cons (.lit (.int 10)) .nil))) (.cons (.lit (.none)) (.cons (.lst (.cons (.lit (.str "value")) (.cons (.lit (.int 1)) .nil))) (.cons (.tup (.cons (.lit (.str "cell")) (.cons (.bi .len (.v 3)) .nil))) .nil))))) (.call "_law_take" (.cons (.v 1) (.cons (.lit (.int 4)) .nil))))) (.cons (.asg 11 (.ix (.lst (.cons (.lit (.none)) (.cons (.bin .add (.ix (.v 4) (.lit (.int 0))) (.tup (.cons (.lit (.int 0)) .nil))) (.cons (.slc (.ix (.v 4) (.lit (.int 0))) (.so (.lit (.int 1))) .no) (.cons (.bi .lst (.ix (.v 4) (.lit (.int 0)))) (.cons (.bin .add (.tup (.cons (.lit (.bool true)) .nil)) (.slc (.ix (.v 4) (.lit (.int 0))) (.so (.lit (.int 1))) .no)) (.cons (.bin .add (.tup (.cons (.ix (.v 3) (.lit (.int 0))) .nil)) (.slc (.ix (.v 4) (.lit (.int 0))) (.so (.lit (.int 1))) .no)) (.cons (.bin .add (.tup (.cons (.neg (.lit (.int 1))) .nil)) (.slc (.ix (.v 4) (.lit (.int 0))) (.so (.lit (.int 1))) .no)) .nil)))))))) (.call "_law_take" (.cons (.v 1) (.cons (.lit (.int 7)) .nil))))) (.cons (.asg 12 (.ix (.lst (.cons (.lit (.none)) (.cons (.tup .nil) (.cons (.tup (.cons (.lit (.int 1)) .nil)) (.cons (.tup (.cons (.lit (.int 4)) (.cons (.lit (.int 3)) .nil))) (.cons (.lst (.cons (.lit (.int 2)) .nil)) (.cons (.tup (.cons (.lit (.bool false)) (.cons (.lit (.int 2)) .nil))) .nil))))))) (.call "_law_take" (.cons (.v 1) (.cons (.lit (.int 6)) .nil))))) (.cons (.asg 13 (.lst (.cons (.call "_law_error" (.cons (.v 12) (.cons (.v 10) (.cons (.v 11) .nil)))) (.cons (.call "_law_error" (.cons (.v 3) (.cons (.v 10) (.cons (.v 11) .nil)))) (.cons (.call "_law_error" (.cons (.v 3) (.cons (.ix (.v 5) (.lit (.int 0))) (.cons (.v 11) .nil)))) (.cons (.call "_law_error" (.cons (.v 3) (.cons (.ix (.v 5) (.lit (.int 0))) (.cons (.ix (.v 4) (.neg (.lit (.int 1)))) .nil)))) .nil)))))) (.cons (.iff (.cmp .ne (.v 13) (.lst (.cons (.lit (.str "frame")) (.cons (.lit (.str "expression")) (.cons (.lit (.str "state")) (.cons (.lit (.str "")) .nil)))))) (.cons (.ret (.lit (.bool false))) .nil) .nil) .nil))))))))))
def c_law : Sms := (.cons x_law_4 (.cons (.ret (.lit (.bool true))) .nil))
def d_is_int : DC := ⟨"is_int", ["thing"], ["thing"], defArgs (top 6), defBody (top 6), defScope (top 6), "", "", c_is_int⟩
def d_within : DC := ⟨"within", ["thing", "low", "high"], ["thing", "low", "high"], defArgs (top 7), defBody (top 7), defScope (top 7), "", "", c_within⟩
def d_is_row : DC := ⟨"is_row", ["thing", "fewest", "most"], ["thing", "fewest", "most"], defArgs (top 8), defBody (top 8), defScope (top 8), "", "", c_is_row⟩
def d_is_tagged : DC := ⟨"is_tagged", ["thing", "tag", "size"], ["thing", "tag", "size"], defArgs (top 9), defBody (top 9), defScope (top 9), "", "", c_is_tagged⟩
def d_tag_of : DC := ⟨"tag_of", ["thing"], ["thing"], defArgs (top 10), defBody (top 10), defScope (top 10), "", "", c_tag_of⟩
def d_is_frame_of : DC := ⟨"is_frame_of", ["thing"], ["thing", "size", "many"], defArgs (top 15), defBody (top 15), defScope (top 15), "", "", c_is_frame_of⟩
def d_need_frame : DC := ⟨"need_frame", ["frame"], ["frame"], defArgs (top 16), defBody (top 16), defScope (top 16), "", "", c_need_frame⟩
def d_is_state_of : DC := ⟨"is_state_of", ["frame", "thing"], ["frame", "thing", "value", "size"], defArgs (top 17), defBody (top 17), defScope (top 17), "", "", c_is_state_of⟩
def d_is_expression_within : DC := ⟨"is_expression_within", ["frame", "thing", "depth"], ["frame", "thing", "depth"], defArgs (top 22), defBody (top 22), defScope (top 22), "", "", c_is_expression_within⟩
def d_is_expression_of : DC := ⟨"is_expression_of", ["frame", "thing"], ["frame", "thing"], defArgs (top 23), defBody (top 23), defScope (top 23), "", "", c_is_expression_of⟩
def d_value_in : DC := ⟨"value_in", ["expression", "state"], ["expression", "state", "tag", "one", "other"], defArgs (top 24), defBody (top 24), defScope (top 24), "", "", c_value_in⟩
def d_need_state_of : DC := ⟨"need_state_of", ["frame", "state"], ["frame", "state"], defArgs (top 25), defBody (top 25), defScope (top 25), "", "", c_need_state_of⟩
def d_is_expression : DC := ⟨"is_expression", ["frame", "thing"], ["frame", "thing"], defArgs (top 26), defBody (top 26), defScope (top 26), "", "", c_is_expression⟩
def d_value_of : DC := ⟨"value_of", ["frame", "expression", "state"], ["frame", "expression", "state"], defArgs (top 27), defBody (top 27), defScope (top 27), "", "", c_value_of⟩
def d__law_take : DC := ⟨"_law_take", ["deal", "many"], ["deal", "many", "cells", "cell", "found", "twice"], defArgs (top 30), defBody (top 30), defScope (top 30), "deal", "cells", c__law_take⟩
def d__law_same : DC := ⟨"_law_same", ["told", "due"], ["told", "due", "waiting", "one", "two", "k"], defArgs (top 31), defBody (top 31), defScope (top 31), "", "", c__law_same⟩
def d__law_int : DC := ⟨"_law_int", ["thing", "low", "high"], ["thing", "low", "high"], defArgs (top 32), defBody (top 32), defScope (top 32), "", "", c__law_int⟩
def d__law_frame : DC := ⟨"_law_frame", ["deal", "most"], ["deal", "most", "rows", "sizes", "size"], defArgs (top 33), defBody (top 33), defScope (top 33), "", "", c__law_frame⟩
def d__law_states : DC := ⟨"_law_states", ["frame"], ["frame", "found", "size", "longer", "state", "value"], defArgs (top 34), defBody (top 34), defScope (top 34), "", "", c__law_states⟩
def d__law_expression : DC := ⟨"_law_expression", ["deal", "frame", "depth"], ["deal", "frame", "depth", "kind", "tag", "one"], defArgs (top 35), defBody (top 35), defScope (top 35), "", "", c__law_expression⟩
def d__law_value : DC := ⟨"_law_value", ["expression", "state"], ["expression", "state", "one", "two"], defArgs (top 36), defBody (top 36), defScope (top 36), "", "", c__law_value⟩
def d__law_is_expression : DC := ⟨"_law_is_expression", ["frame", "thing", "depth"], ["frame", "thing", "depth"], defArgs (top 37), defBody (top 37), defScope (top 37), "", "", c__law_is_expression⟩
def d__law_chain : DC := ⟨"_law_chain", ["deal", "frame", "depth"], ["deal", "frame", "depth", "found", "turn", "tag", "way", "other"], defArgs (top 38), defBody (top 38), defScope (top 38), "", "", c__law_chain⟩
def d__law_spots : DC := ⟨"_law_spots", ["tree"], ["tree", "found", "k", "place"], defArgs (top 39), defBody (top 39), defScope (top 39), "", "", c__law_spots⟩
def d__law_put : DC := ⟨"_law_put", ["tree", "place", "part"], ["tree", "place", "part"], defArgs (top 40), defBody (top 40), defScope (top 40), "", "", c__law_put⟩
def d__law_bent : DC := ⟨"_law_bent", ["deal", "frame", "tree"], ["deal", "frame", "tree", "odd", "spots", "found", "turn"], defArgs (top 41), defBody (top 41), defScope (top 41), "", "", c__law_bent⟩
def d__law_error : DC := ⟨"_law_error", ["frame", "expression", "state"], ["frame", "expression", "state", "found", "told"], defArgs (top 42), defBody (top 42), defScope (top 42), "", "", c__law_error⟩
def ds : List DC := [d_is_int, d_within, d_is_row, d_is_tagged, d_tag_of, d_is_frame_of, d_need_frame, d_is_state_of, d_is_expression_within, d_is_expression_of, d_value_in, d_need_state_of, d_is_expression, d_value_of, d__law_take, d__law_same, d__law_int, d__law_frame, d__law_states, d__law_expression, d__law_value, d__law_is_expression, d__law_chain, d__law_spots, d__law_put, d__law_bent, d__law_error]
def dd_deal : He.DefD := ⟨("_law_deal", none), "_law_deal", "_law_deal", defArgs (top 29), defBody (top 29), defScope (top 29), [], []⟩
def dd_law : He.DefD := ⟨("law", none), "law", "law", defArgs (top 43), defBody (top 43), defScope (top 43), [], []⟩
def fn : List He.DefD := dd_deal :: dd_law :: ds.map DC.dd
def ns : List Str := "_law_deal" :: "law" :: ds.map DC.f
theorem h_in : ∀ d ∈ ds, d.f ∈ ns ∧ d.dd ∈ fn := fun d hd => ⟨List.mem_cons_of_mem _ (List.mem_cons_of_mem _ (List.mem_map_of_mem hd)), List.mem_cons_of_mem _ (List.mem_cons_of_mem _ (List.mem_map_of_mem hd))⟩
theorem h_fns : T.fns = ds.map fun d => (d.f, ⟨d.ps.length⟩) := by kernel_rfl
theorem k_is_int : (cmpS (cmp 60) 60).ss ⟨T, d_is_int.N, d_is_int.scope, d_is_int.scope, true, d_is_int.dn, d_is_int.cn⟩ d_is_int.body = some d_is_int.sms := by kernel_rfl
theorem s_is_int : FnScope d_is_int.N d_is_int.ps d_is_int.scope := ⟨by kernel_rfl, by kernel_rfl, by kernel_rfl, by decide +kernel, by kernel_rfl, by decide +kernel, by decide +kernel⟩
theorem b_is_int {K : PySem.W.Frag} {fa : Addr} {fd : FuncData} (F : FunD K d_is_int.f d_is_int.f d_is_int.params d_is_int.body d_is_int.scope [] [] fa fd) : Binds K fd d_is_int.ps [] := F.bindsN fun _ _ _ _ _ _ us hl => match us, hl with | [_], _ => rfl
theorem k_within : (cmpS (cmp 60) 60).ss ⟨T, d_within.N, d_within.scope, d_within.scope, true, d_within.dn, d_within.cn⟩ d_within.body = some d_within.sms := by kernel_rfl
theorem s_within : FnScope d_within.N d_within.ps d_within.scope := ⟨by kernel_rfl, by kernel_rfl, by kernel_rfl, by decide +kernel, by kernel_rfl, by decide +kernel, by decide +kernel⟩
theorem b_within {K : PySem.W.Frag} {fa : Addr} {fd : FuncData} (F : FunD K d_within.f d_within.f d_within.params d_within.body d_within.scope [] [] fa fd) : Binds K fd d_within.ps [] := F.bindsN fun _ _ _ _ _ _ us hl => match us, hl with | [_, _, _], _ => rfl
theorem k_is_row : (cmpS (cmp 60) 60).ss ⟨T, d_is_row.N, d_is_row.scope, d_is_row.scope, true, d_is_row.dn, d_is_row.cn⟩ d_is_row.body = some d_is_row.sms := by kernel_rfl
theorem s_is_row : FnScope d_is_row.N d_is_row.ps d_is_row.scope := ⟨by kernel_rfl, by kernel_rfl, by kernel_rfl, by decide +kernel, by kernel_rfl, by decide +kernel, by decide +kernel⟩
theorem b_is_row {K : PySem.W.Frag} {fa : Addr} {fd : FuncData} (F : FunD K d_is_row.f d_is_row.f d_is_row.params d_is_row.body d_is_row.scope [] [] fa fd) : Binds K fd d_is_row.ps [] := F.bindsN fun _ _ _ _ _ _ us hl => match us, hl with | [_, _, _], _ => rfl
theorem k_is_tagged : (cmpS (cmp 60) 60).ss ⟨T, d_is_tagged.N, d_is_tagged.scope, d_is_tagged.scope, true, d_is_tagged.dn, d_is_tagged.cn⟩ d_is_tagged.body = some d_is_tagged.sms := by kernel_rfl
theorem s_is_tagged : FnScope d_is_tagged.N d_is_tagged.ps d_is_tagged.scope := ⟨by kernel_rfl, by kernel_rfl, by kernel_rfl, by decide +kernel, by kernel_rfl, by decide +kernel, by decide +kernel⟩
theorem b_is_tagged {K : PySem.W.Frag} {fa : Addr} {fd : FuncData} (F : FunD K d_is_tagged.f d_is_tagged.f d_is_tagged.params d_is_tagged.body d_is_tagged.scope [] [] fa fd) : Binds K fd d_is_tagged.ps [] := F.bindsN fun _ _ _ _ _ _ us hl => match us, hl with | [_, _, _], _ => rfl
theorem k_tag_of : (cmpS (cmp 60) 60).ss ⟨T, d_tag_of.N, d_tag_of.scope, d_tag_of.scope, true, d_tag_of.dn, d_tag_of.cn⟩ d_tag_of.body = some d_tag_of.sms := by kernel_rfl
theorem s_tag_of : FnScope d_tag_of.N d_tag_of.ps d_tag_of.scope := ⟨by kernel_rfl, by kernel_rfl, by kernel_rfl, by decide +kernel, by kernel_rfl, by decide +kernel, by decide +kernel⟩
theorem b_tag_of {K : PySem.W.Frag} {fa : Addr} {fd : FuncData} (F : FunD K d_tag_of.f d_tag_of.f d_tag_of.params d_tag_of.body d_tag_of.scope [] [] fa fd) : Binds K fd d_tag_of.ps [] := F.bindsN fun _ _ _ _ _ _ us hl => match us, hl with | [_], _ => rfl
theorem k_is_frame_of : (cmpS (cmp 60) 60).ss ⟨T, d_is_frame_of.N, d_is_frame_of.scope, d_is_frame_of.scope, true, d_is_frame_of.dn, d_is_frame_of.cn⟩ d_is_frame_of.body = some d_is_frame_of.sms := by kernel_rfl
theorem s_is_frame_of : FnScope d_is_frame_of.N d_is_frame_of.ps d_is_frame_of.scope := ⟨by kernel_rfl, by kernel_rfl, by kernel_rfl, by decide +kernel, by kernel_rfl, by decide +kernel, by decide +kernel⟩
theorem b_is_frame_of {K : PySem.W.Frag} {fa : Addr} {fd : FuncData} (F : FunD K d_is_frame_of.f d_is_frame_of.f d_is_frame_of.params d_is_frame_of.body d_is_frame_of.scope [] [] fa fd) : Binds K fd d_is_frame_of.ps [] := F.bindsN fun _ _ _ _ _ _ us hl => match us, hl with | [_], _ => rfl
theorem k_need_frame : (cmpS (cmp 60) 60).ss ⟨T, d_need_frame.N, d_need_frame.scope, d_need_frame.scope, true, d_need_frame.dn, d_need_frame.cn⟩ d_need_frame.body = some d_need_frame.sms := by kernel_rfl
theorem s_need_frame : FnScope d_need_frame.N d_need_frame.ps d_need_frame.scope := ⟨by kernel_rfl, by kernel_rfl, by kernel_rfl, by decide +kernel, by kernel_rfl, by decide +kernel, by decide +kernel⟩
theorem b_need_frame {K : PySem.W.Frag} {fa : Addr} {fd : FuncData} (F : FunD K d_need_frame.f d_need_frame.f d_need_frame.params d_need_frame.body d_need_frame.scope [] [] fa fd) : Binds K fd d_need_frame.ps [] := F.bindsN fun _ _ _ _ _ _ us hl => match us, hl with | [_], _ => rfl
theorem k_is_state_of : (cmpS (cmp 60) 60).ss ⟨T, d_is_state_of.N, d_is_state_of.scope, d_is_state_of.scope, true, d_is_state_of.dn, d_is_state_of.cn⟩ d_is_state_of.body = some d_is_state_of.sms := by kernel_rfl
theorem s_is_state_of : FnScope d_is_state_of.N d_is_state_of.ps d_is_state_of.scope := ⟨by kernel_rfl, by kernel_rfl, by kernel_rfl, by decide +kernel, by kernel_rfl, by decide +kernel, by decide +kernel⟩
theorem b_is_state_of {K : PySem.W.Frag} {fa : Addr} {fd : FuncData} (F : FunD K d_is_state_of.f d_is_state_of.f d_is_state_of.params d_is_state_of.body d_is_state_of.scope [] [] fa fd) : Binds K fd d_is_state_of.ps [] := F.bindsN fun _ _ _ _ _ _ us hl => match us, hl with | [_, _], _ => rfl
theorem k_is_expression_within : (cmpS (cmp 60) 60).ss ⟨T, d_is_expression_within.N, d_is_expression_within.scope, d_is_expression_within.scope, true, d_is_expression_within.dn, d_is_expression_within.cn⟩ d_is_expression_within.body = some d_is_expression_within.sms := by kernel_rfl
theorem s_is_expression_within : FnScope d_is_expression_within.N d_is_expression_within.ps d_is_expression_within.scope := ⟨by kernel_rfl, by kernel_rfl, by kernel_rfl, by decide +kernel, by kernel_rfl, by decide +kernel, by decide +kernel⟩
theorem b_is_expression_within {K : PySem.W.Frag} {fa : Addr} {fd : FuncData} (F : FunD K d_is_expression_within.f d_is_expression_within.f d_is_expression_within.params d_is_expression_within.body d_is_expression_within.scope [] [] fa fd) : Binds K fd d_is_expression_within.ps [] := F.bindsN fun _ _ _ _ _ _ us hl => match us, hl with | [_, _, _], _ => rfl
theorem k_is_expression_of : (cmpS (cmp 60) 60).ss ⟨T, d_is_expression_of.N, d_is_expression_of.scope, d_is_expression_of.scope, true, d_is_expression_of.dn, d_is_expression_of.cn⟩ d_is_expression_of.body = some d_is_expression_of.sms := by kernel_rfl
theorem s_is_expression_of : FnScope d_is_expression_of.N d_is_expression_of.ps d_is_expression_of.scope := ⟨by kernel_rfl, by kernel_rfl, by kernel_rfl, by decide +kernel, by kernel_rfl, by decide +kernel, by decide +kernel⟩
theorem b_is_expression_of {K : PySem.W.Frag} {fa : Addr} {fd : FuncData} (F : FunD K d_is_expression_of.f d_is_expression_of.f d_is_expression_of.params d_is_expression_of.body d_is_expression_of.scope [] [] fa fd) : Binds K fd d_is_expression_of.ps [] := F.bindsN fun _ _ _ _ _ _ us hl => match us, hl with | [_, _], _ => rfl
theorem k_value_in : (cmpS (cmp 60) 60).ss ⟨T, d_value_in.N, d_value_in.scope, d_value_in.scope, true, d_value_in.dn, d_value_in.cn⟩ d_value_in.body = some d_value_in.sms := by kernel_rfl
theorem s_value_in : FnScope d_value_in.N d_value_in.ps d_value_in.scope := ⟨by kernel_rfl, by kernel_rfl, by kernel_rfl, by decide +kernel, by kernel_rfl, by decide +kernel, by decide +kernel⟩
theorem b_value_in {K : PySem.W.Frag} {fa : Addr} {fd : FuncData} (F : FunD K d_value_in.f d_value_in.f d_value_in.params d_value_in.body d_value_in.scope [] [] fa fd) : Binds K fd d_value_in.ps [] := F.bindsN fun _ _ _ _ _ _ us hl => match us, hl with | [_, _], _ => rfl
theorem k_need_state_of : (cmpS (cmp 60) 60).ss ⟨T, d_need_state_of.N, d_need_state_of.scope, d_need_state_of.scope, true, d_need_state_of.dn, d_need_state_of.cn⟩ d_need_state_of.body = some d_need_state_of.sms := by kernel_rfl
theorem s_need_state_of : FnScope d_need_state_of.N d_need_state_of.ps d_need_state_of.scope := ⟨by kernel_rfl, by kernel_rfl, by kernel_rfl, by decide +kernel, by kernel_rfl, by decide +kernel, by decide +kernel⟩
theorem b_need_state_of {K : PySem.W.Frag} {fa : Addr} {fd : FuncData} (F : FunD K d_need_state_of.f d_need_state_of.f d_need_state_of.params d_need_state_of.body d_need_state_of.scope [] [] fa fd) : Binds K fd d_need_state_of.ps [] := F.bindsN fun _ _ _ _ _ _ us hl => match us, hl with | [_, _], _ => rfl
theorem k_is_expression : (cmpS (cmp 60) 60).ss ⟨T, d_is_expression.N, d_is_expression.scope, d_is_expression.scope, true, d_is_expression.dn, d_is_expression.cn⟩ d_is_expression.body = some d_is_expression.sms := by kernel_rfl
theorem s_is_expression : FnScope d_is_expression.N d_is_expression.ps d_is_expression.scope := ⟨by kernel_rfl, by kernel_rfl, by kernel_rfl, by decide +kernel, by kernel_rfl, by decide +kernel, by decide +kernel⟩
theorem b_is_expression {K : PySem.W.Frag} {fa : Addr} {fd : FuncData} (F : FunD K d_is_expression.f d_is_expression.f d_is_expression.params d_is_expression.body d_is_expression.scope [] [] fa fd) : Binds K fd d_is_expression.ps [] := F.bindsN fun _ _ _ _ _ _ us hl => match us, hl with | [_, _], _ => rfl
theorem k_value_of : (cmpS (cmp 60) 60).ss ⟨T, d_value_of.N, d_value_of.scope, d_value_of.scope, true, d_value_of.dn, d_value_of.cn⟩ d_value_of.body = some d_value_of.sms := by kernel_rfl
theorem s_value_of : FnScope d_value_of.N d_value_of.ps d_value_of.scope := ⟨by kernel_rfl, by kernel_rfl, by kernel_rfl, by decide +kernel, by kernel_rfl, by decide +kernel, by decide +kernel⟩
theorem b_value_of {K : PySem.W.Frag} {fa : Addr} {fd : FuncData} (F : FunD K d_value_of.f d_value_of.f d_value_of.params d_value_of.body d_value_of.scope [] [] fa fd) : Binds K fd d_value_of.ps [] := F.bindsN fun _ _ _ _ _ _ us hl => match us, hl with | [_, _, _], _ => rfl
theorem k__law_take : (cmpS (cmp 60) 60).ss ⟨T, d__law_take.N, d__law_take.scope, d__law_take.scope, true, d__law_take.dn, d__law_take.cn⟩ d__law_take.body = some d__law_take.sms := by kernel_rfl
theorem s__law_take : FnScope d__law_take.N d__law_take.ps d__law_take.scope := ⟨by kernel_rfl, by kernel_rfl, by kernel_rfl, by decide +kernel, by kernel_rfl, by decide +kernel, by decide +kernel⟩
theorem b__law_take {K : PySem.W.Frag} {fa : Addr} {fd : FuncData} (F : FunD K d__law_take.f d__law_take.f d__law_take.params d__law_take.body d__law_take.scope [] [] fa fd) : Binds K fd d__law_take.ps [] := F.bindsN fun _ _ _ _ _ _ us hl => match us, hl with | [_, _], _ => rfl
theorem k__law_same : (cmpS (cmp 60) 60).ss ⟨T, d__law_same.N, d__law_same.scope, d__law_same.scope, true, d__law_same.dn, d__law_same.cn⟩ d__law_same.body = some d__law_same.sms := by kernel_rfl
theorem s__law_same : FnScope d__law_same.N d__law_same.ps d__law_same.scope := ⟨by kernel_rfl, by kernel_rfl, by kernel_rfl, by decide +kernel, by kernel_rfl, by decide +kernel, by decide +kernel⟩
theorem b__law_same {K : PySem.W.Frag} {fa : Addr} {fd : FuncData} (F : FunD K d__law_same.f d__law_same.f d__law_same.params d__law_same.body d__law_same.scope [] [] fa fd) : Binds K fd d__law_same.ps [] := F.bindsN fun _ _ _ _ _ _ us hl => match us, hl with | [_, _], _ => rfl
theorem k__law_int : (cmpS (cmp 60) 60).ss ⟨T, d__law_int.N, d__law_int.scope, d__law_int.scope, true, d__law_int.dn, d__law_int.cn⟩ d__law_int.body = some d__law_int.sms := by kernel_rfl
theorem s__law_int : FnScope d__law_int.N d__law_int.ps d__law_int.scope := ⟨by kernel_rfl, by kernel_rfl, by kernel_rfl, by decide +kernel, by kernel_rfl, by decide +kernel, by decide +kernel⟩
theorem b__law_int {K : PySem.W.Frag} {fa : Addr} {fd : FuncData} (F : FunD K d__law_int.f d__law_int.f d__law_int.params d__law_int.body d__law_int.scope [] [] fa fd) : Binds K fd d__law_int.ps [] := F.bindsN fun _ _ _ _ _ _ us hl => match us, hl with | [_, _, _], _ => rfl
theorem k__law_frame : (cmpS (cmp 60) 60).ss ⟨T, d__law_frame.N, d__law_frame.scope, d__law_frame.scope, true, d__law_frame.dn, d__law_frame.cn⟩ d__law_frame.body = some d__law_frame.sms := by kernel_rfl
theorem s__law_frame : FnScope d__law_frame.N d__law_frame.ps d__law_frame.scope := ⟨by kernel_rfl, by kernel_rfl, by kernel_rfl, by decide +kernel, by kernel_rfl, by decide +kernel, by decide +kernel⟩
theorem b__law_frame {K : PySem.W.Frag} {fa : Addr} {fd : FuncData} (F : FunD K d__law_frame.f d__law_frame.f d__law_frame.params d__law_frame.body d__law_frame.scope [] [] fa fd) : Binds K fd d__law_frame.ps [] := F.bindsN fun _ _ _ _ _ _ us hl => match us, hl with | [_, _], _ => rfl
theorem k__law_states : (cmpS (cmp 60) 60).ss ⟨T, d__law_states.N, d__law_states.scope, d__law_states.scope, true, d__law_states.dn, d__law_states.cn⟩ d__law_states.body = some d__law_states.sms := by kernel_rfl
theorem s__law_states : FnScope d__law_states.N d__law_states.ps d__law_states.scope := ⟨by kernel_rfl, by kernel_rfl, by kernel_rfl, by decide +kernel, by kernel_rfl, by decide +kernel, by decide +kernel⟩
theorem b__law_states {K : PySem.W.Frag} {fa : Addr} {fd : FuncData} (F : FunD K d__law_states.f d__law_states.f d__law_states.params d__law_states.body d__law_states.scope [] [] fa fd) : Binds K fd d__law_states.ps [] := F.bindsN fun _ _ _ _ _ _ us hl => match us, hl with | [_], _ => rfl
theorem k__law_expression : (cmpS (cmp 60) 60).ss ⟨T, d__law_expression.N, d__law_expression.scope, d__law_expression.scope, true, d__law_expression.dn, d__law_expression.cn⟩ d__law_expression.body = some d__law_expression.sms := by kernel_rfl
theorem s__law_expression : FnScope d__law_expression.N d__law_expression.ps d__law_expression.scope := ⟨by kernel_rfl, by kernel_rfl, by kernel_rfl, by decide +kernel, by kernel_rfl, by decide +kernel, by decide +kernel⟩
theorem b__law_expression {K : PySem.W.Frag} {fa : Addr} {fd : FuncData} (F : FunD K d__law_expression.f d__law_expression.f d__law_expression.params d__law_expression.body d__law_expression.scope [] [] fa fd) : Binds K fd d__law_expression.ps [] := F.bindsN fun _ _ _ _ _ _ us hl => match us, hl with | [_, _, _], _ => rfl
theorem k__law_value : (cmpS (cmp 60) 60).ss ⟨T, d__law_value.N, d__law_value.scope, d__law_value.scope, true, d__law_value.dn, d__law_value.cn⟩ d__law_value.body = some d__law_value.sms := by kernel_rfl
theorem s__law_value : FnScope d__law_value.N d__law_value.ps d__law_value.scope := ⟨by kernel_rfl, by kernel_rfl, by kernel_rfl, by decide +kernel, by kernel_rfl, by decide +kernel, by decide +kernel⟩
theorem b__law_value {K : PySem.W.Frag} {fa : Addr} {fd : FuncData} (F : FunD K d__law_value.f d__law_value.f d__law_value.params d__law_value.body d__law_value.scope [] [] fa fd) : Binds K fd d__law_value.ps [] := F.bindsN fun _ _ _ _ _ _ us hl => match us, hl with | [_, _], _ => rfl
theorem k__law_is_expression : (cmpS (cmp 60) 60).ss ⟨T, d__law_is_expression.N, d__law_is_expression.scope, d__law_is_expression.scope, true, d__law_is_expression.dn, d__law_is_expression.cn⟩ d__law_is_expression.body = some d__law_is_expression.sms := by kernel_rfl
theorem s__law_is_expression : FnScope d__law_is_expression.N d__law_is_expression.ps d__law_is_expression.scope := ⟨by kernel_rfl, by kernel_rfl, by kernel_rfl, by decide +kernel, by kernel_rfl, by decide +kernel, by decide +kernel⟩
theorem b__law_is_expression {K : PySem.W.Frag} {fa : Addr} {fd : FuncData} (F : FunD K d__law_is_expression.f d__law_is_expression.f d__law_is_expression.params d__law_is_expression.body d__law_is_expression.scope [] [] fa fd) : Binds K fd d__law_is_expression.ps [] := F.bindsN fun _ _ _ _ _ _ us hl => match us, hl with | [_, _, _], _ => rfl
theorem k__law_chain : (cmpS (cmp 60) 60).ss ⟨T, d__law_chain.N, d__law_chain.scope, d__law_chain.scope, true, d__law_chain.dn, d__law_chain.cn⟩ d__law_chain.body = some d__law_chain.sms := by kernel_rfl
theorem s__law_chain : FnScope d__law_chain.N d__law_chain.ps d__law_chain.scope := ⟨by kernel_rfl, by kernel_rfl, by kernel_rfl, by decide +kernel, by kernel_rfl, by decide +kernel, by decide +kernel⟩
theorem b__law_chain {K : PySem.W.Frag} {fa : Addr} {fd : FuncData} (F : FunD K d__law_chain.f d__law_chain.f d__law_chain.params d__law_chain.body d__law_chain.scope [] [] fa fd) : Binds K fd d__law_chain.ps [] := F.bindsN fun _ _ _ _ _ _ us hl => match us, hl with | [_, _, _], _ => rfl
theorem k__law_spots : (cmpS (cmp 60) 60).ss ⟨T, d__law_spots.N, d__law_spots.scope, d__law_spots.scope, true, d__law_spots.dn, d__law_spots.cn⟩ d__law_spots.body = some d__law_spots.sms := by kernel_rfl
theorem s__law_spots : FnScope d__law_spots.N d__law_spots.ps d__law_spots.scope := ⟨by kernel_rfl, by kernel_rfl, by kernel_rfl, by decide +kernel, by kernel_rfl, by decide +kernel, by decide +kernel⟩
theorem b__law_spots {K : PySem.W.Frag} {fa : Addr} {fd : FuncData} (F : FunD K d__law_spots.f d__law_spots.f d__law_spots.params d__law_spots.body d__law_spots.scope [] [] fa fd) : Binds K fd d__law_spots.ps [] := F.bindsN fun _ _ _ _ _ _ us hl => match us, hl with | [_], _ => rfl
theorem k__law_put : (cmpS (cmp 60) 60).ss ⟨T, d__law_put.N, d__law_put.scope, d__law_put.scope, true, d__law_put.dn, d__law_put.cn⟩ d__law_put.body = some d__law_put.sms := by kernel_rfl
theorem s__law_put : FnScope d__law_put.N d__law_put.ps d__law_put.scope := ⟨by kernel_rfl, by kernel_rfl, by kernel_rfl, by decide +kernel, by kernel_rfl, by decide +kernel, by decide +kernel⟩
theorem b__law_put {K : PySem.W.Frag} {fa : Addr} {fd : FuncData} (F : FunD K d__law_put.f d__law_put.f d__law_put.params d__law_put.body d__law_put.scope [] [] fa fd) : Binds K fd d__law_put.ps [] := F.bindsN fun _ _ _ _ _ _ us hl => match us, hl with | [_, _, _], _ => rfl
theorem k__law_bent : (cmpS (cmp 60) 60).ss ⟨T, d__law_bent.N, d__law_bent.scope, d__law_bent.scope, true, d__law_bent.dn, d__law_bent.cn⟩ d__law_bent.body = some d__law_bent.sms := by kernel_rfl
theorem s__law_bent : FnScope d__law_bent.N d__law_bent.ps d__law_bent.scope := ⟨by kernel_rfl, by kernel_rfl, by kernel_rfl, by decide +kernel, by kernel_rfl, by decide +kernel, by decide +kernel⟩
theorem b__law_bent {K : PySem.W.Frag} {fa : Addr} {fd : FuncData} (F : FunD K d__law_bent.f d__law_bent.f d__law_bent.params d__law_bent.body d__law_bent.scope [] [] fa fd) : Binds K fd d__law_bent.ps [] := F.bindsN fun _ _ _ _ _ _ us hl => match us, hl with | [_, _, _], _ => rfl
theorem k__law_error : (cmpS (cmp 60) 60).ss ⟨T, d__law_error.N, d__law_error.scope, d__law_error.scope, true, d__law_error.dn, d__law_error.cn⟩ d__law_error.body = some d__law_error.sms := by kernel_rfl
theorem s__law_error : FnScope d__law_error.N d__law_error.ps d__law_error.scope := ⟨by kernel_rfl, by kernel_rfl, by kernel_rfl, by decide +kernel, by kernel_rfl, by decide +kernel, by decide +kernel⟩
theorem b__law_error {K : PySem.W.Frag} {fa : Addr} {fd : FuncData} (F : FunD K d__law_error.f d__law_error.f d__law_error.params d__law_error.body d__law_error.scope [] [] fa fd) : Binds K fd d__law_error.ps [] := F.bindsN fun _ _ _ _ _ _ us hl => match us, hl with | [_, _, _], _ => rfl
theorem ds_eq : ds = [d_is_int, d_within, d_is_row, d_is_tagged, d_tag_of, d_is_frame_of, d_need_frame, d_is_state_of, d_is_expression_within, d_is_expression_of, d_value_in, d_need_state_of, d_is_expression, d_value_of, d__law_take, d__law_same, d__law_int, d__law_frame, d__law_states, d__law_expression, d__law_value, d__law_is_expression, d__law_chain, d__law_spots, d__law_put, d__law_bent, d__law_error] := by kernel_rfl
theorem h_chk : ∀ d ∈ ds, (cmpS (cmp 60) 60).ss ⟨T, d.N, d.scope, d.scope, true, d.dn, d.cn⟩ d.body = some d.sms := (List.forall_mem_cons.mpr ⟨k_is_int, (List.forall_mem_cons.mpr ⟨k_within, (List.forall_mem_cons.mpr ⟨k_is_row, (List.forall_mem_cons.mpr ⟨k_is_tagged, (List.forall_mem_cons.mpr ⟨k_tag_of, (List.forall_mem_cons.mpr ⟨k_is_frame_of, (List.forall_mem_cons.mpr ⟨k_need_frame, (List.forall_mem_cons.mpr ⟨k_is_state_of, (List.forall_mem_cons.mpr ⟨k_is_expression_within, (List.forall_mem_cons.mpr ⟨k_is_expression_of, (List.forall_mem_cons.mpr ⟨k_value_in, (List.forall_mem_cons.mpr ⟨k_need_state_of, (List.forall_mem_cons.mpr ⟨k_is_expression, (List.forall_mem_cons.mpr ⟨k_value_of, (List.forall_mem_cons.mpr ⟨k__law_take, (List.forall_mem_cons.mpr ⟨k__law_same, (List.forall_mem_cons.mpr ⟨k__law_int, (List.forall_mem_cons.mpr ⟨k__law_frame, (List.forall_mem_cons.mpr ⟨k__law_states, (List.forall_mem_cons.mpr ⟨k__law_expression, (List.forall_mem_cons.mpr ⟨k__law_value, (List.forall_mem_cons.mpr ⟨k__law_is_expression, (List.forall_mem_cons.mpr ⟨k__law_chain, (List.forall_mem_cons.mpr ⟨k__law_spots, (List.forall_mem_cons.mpr ⟨k__law_put, (List.forall_mem_cons.mpr ⟨k__law_bent, (List.forall_mem_cons.mpr ⟨k__law_error, (fun _ z => nomatch z)⟩)⟩)⟩)⟩)⟩)⟩)⟩)⟩)⟩)⟩)⟩)⟩)⟩)⟩)⟩)⟩)⟩)⟩)⟩)⟩)⟩)⟩)⟩)⟩)⟩)⟩)⟩)
theorem h_sco : ∀ d ∈ ds, FnScope d.N d.ps d.scope := (List.forall_mem_cons.mpr ⟨s_is_int, (List.forall_mem_cons.mpr ⟨s_within, (List.forall_mem_cons.mpr ⟨s_is_row, (List.forall_mem_cons.mpr ⟨s_is_tagged, (List.forall_mem_cons.mpr ⟨s_tag_of, (List.forall_mem_cons.mpr ⟨s_is_frame_of, (List.forall_mem_cons.mpr ⟨s_need_frame, (List.forall_mem_cons.mpr ⟨s_is_state_of, (List.forall_mem_cons.mpr ⟨s_is_expression_within, (List.forall_mem_cons.mpr ⟨s_is_expression_of, (List.forall_mem_cons.mpr ⟨s_value_in, (List.forall_mem_cons.mpr ⟨s_need_state_of, (List.forall_mem_cons.mpr ⟨s_is_expression, (List.forall_mem_cons.mpr ⟨s_value_of, (List.forall_mem_cons.mpr ⟨s__law_take, (List.forall_mem_cons.mpr ⟨s__law_same, (List.forall_mem_cons.mpr ⟨s__law_int, (List.forall_mem_cons.mpr ⟨s__law_frame, (List.forall_mem_cons.mpr ⟨s__law_states, (List.forall_mem_cons.mpr ⟨s__law_expression, (List.forall_mem_cons.mpr ⟨s__law_value, (List.forall_mem_cons.mpr ⟨s__law_is_expression, (List.forall_mem_cons.mpr ⟨s__law_chain, (List.forall_mem_cons.mpr ⟨s__law_spots, (List.forall_mem_cons.mpr ⟨s__law_put, (List.forall_mem_cons.mpr ⟨s__law_bent, (List.forall_mem_cons.mpr ⟨s__law_error, (fun _ z => nomatch z)⟩)⟩)⟩)⟩)⟩)⟩)⟩)⟩)⟩)⟩)⟩)⟩)⟩)⟩)⟩)⟩)⟩)⟩)⟩)⟩)⟩)⟩)⟩)⟩)⟩)⟩)⟩)
theorem h_bnd {K : PySem.W.Frag} : ∀ d ∈ ds, ∀ fa fd, FunD K d.f d.f d.params d.body d.scope [] [] fa fd → Binds K fd d.ps [] := (List.forall_mem_cons.mpr ⟨fun _ _ F => b_is_int F, (List.forall_mem_cons.mpr ⟨fun _ _ F => b_within F, (List.forall_mem_cons.mpr ⟨fun _ _ F => b_is_row F, (List.forall_mem_cons.mpr ⟨fun _ _ F => b_is_tagged F, (List.forall_mem_cons.mpr ⟨fun _ _ F => b_tag_of F, (List.forall_mem_cons.mpr ⟨fun _ _ F => b_is_frame_of F, (List.forall_mem_cons.mpr ⟨fun _ _ F => b_need_frame F, (List.forall_mem_cons.mpr ⟨fun _ _ F => b_is_state_of F, (List.forall_mem_cons.mpr ⟨fun _ _ F => b_is_expression_within F, (List.forall_mem_cons.mpr ⟨fun _ _ F => b_is_expression_of F, (List.forall_mem_cons.mpr ⟨fun _ _ F => b_value_in F, (List.forall_mem_cons.mpr ⟨fun _ _ F => b_need_state_of F, (List.forall_mem_cons.mpr ⟨fun _ _ F => b_is_expression F, (List.forall_mem_cons.mpr ⟨fun _ _ F => b_value_of F, (List.forall_mem_cons.mpr ⟨fun _ _ F => b__law_take F, (List.forall_mem_cons.mpr ⟨fun _ _ F => b__law_same F, (List.forall_mem_cons.mpr ⟨fun _ _ F => b__law_int F, (List.forall_mem_cons.mpr ⟨fun _ _ F => b__law_frame F, (List.forall_mem_cons.mpr ⟨fun _ _ F => b__law_states F, (List.forall_mem_cons.mpr ⟨fun _ _ F => b__law_expression F, (List.forall_mem_cons.mpr ⟨fun _ _ F => b__law_value F, (List.forall_mem_cons.mpr ⟨fun _ _ F => b__law_is_expression F, (List.forall_mem_cons.mpr ⟨fun _ _ F => b__law_chain F, (List.forall_mem_cons.mpr ⟨fun _ _ F => b__law_spots F, (List.forall_mem_cons.mpr ⟨fun _ _ F => b__law_put F, (List.forall_mem_cons.mpr ⟨fun _ _ F => b__law_bent F, (List.forall_mem_cons.mpr ⟨fun _ _ F => b__law_error F, (fun _ z => nomatch z)⟩)⟩)⟩)⟩)⟩)⟩)⟩)⟩)⟩)⟩)⟩)⟩)⟩)⟩)⟩)⟩)⟩)⟩)⟩)⟩)⟩)⟩)⟩)⟩)⟩)⟩)⟩)
theorem h_kws {K : PySem.W.Frag} : ∀ q ∈ T.kws, ∃ d, ds.find? (fun d => q.1 == d.f) = some d ∧ q.2.1 + q.2.2.1.length = q.2.2.2.length ∧ ∀ fa fd, FunD K d.f d.f d.params d.body d.scope [] [] fa fd → KBn K fd d.ps q.2.1 q.2.2.1 (pick q.2.2.2) (pick q.2.2.2) := (List.forall_mem_cons.mpr ⟨⟨d_is_expression, by kernel_rfl, rfl, fun _ _ F => F.kbn0 fun _ _ _ _ _ _ us ws l1 l2 => match us, l1, ws, l2 with | [], _, [_, _], _ => rfl⟩, (List.forall_mem_cons.mpr ⟨⟨d_value_of, by kernel_rfl, rfl, fun _ _ F => F.kbn0 fun _ _ _ _ _ _ us ws l1 l2 => match us, l1, ws, l2 with | [], _, [_, _, _], _ => rfl⟩, (List.forall_mem_cons.mpr ⟨⟨d_value_of, by kernel_rfl, rfl, fun _ _ F => F.kbn0 fun _ _ _ _ _ _ us ws l1 l2 => match us, l1, ws, l2 with | [], _, [_, _, _], _ => rfl⟩, (fun _ z => nomatch z)⟩)⟩)⟩)
def tk0 : Dl → Int → Option (Int × Dl) := fun _ _ => none
abbrev Tb : Tab := tabOf ds tk0 T.exs
abbrev CC (n : Nat) : Cal := ⟨call Tb n, tk0, T.exs⟩
abbrev Nlaw : List Str := ["script", "deal", "turn", "frame", "own", "lots", "tree", "state", "thing", "due", "bad", "far", "wrong", "words"]
abbrev Ndeal : List Str := ["script", "cell"]
def cells (ns : List Int) : List Int := (ns.take 63).map fun i => i % 10 ^ 60
abbrev rest0 : List Int := [0, 7013, 0]
def loose : List Str := (["__name__", "WovenError", "BadFrame", "BadState", "BadExpression", "is_int", "within", "is_row", "is_tagged", "tag_of", "MOST_CELLS", "MOST_VALUES", "MOST_STATES", "is_frame_of", "need_frame", "is_state_of", "MOST_DEPTH", "MOST_VALUE", "SUMS", "is_expression_within", "is_expression_of", "value_in", "need_state_of", "is_expression", "value_of", "_law_deal", "_law_take", "_law_same", "_law_int", "_law_frame"] : List Str) ++ (["_law_states", "_law_expression", "_law_value", "_law_is_expression", "_law_chain", "_law_spots", "_law_put", "_law_bent", "_law_error"] : List Str)
end K05
namespace K05
open PySem PySem.Spec PyProof.Rows L2 WV LA LD
instance : LD.F_is_int Tb := ⟨by kernel_rfl⟩
instance : LD.F_within Tb := ⟨by kernel_rfl⟩
instance : LD.F_is_row Tb := ⟨by kernel_rfl⟩
instance : LD.F_is_tagged Tb := ⟨by kernel_rfl⟩
instance : LD.F_tag_of Tb := ⟨by kernel_rfl⟩
instance : LD.F_is_frame_of Tb := ⟨by kernel_rfl⟩
instance : LD.F_need_frame Tb := ⟨by kernel_rfl⟩
instance : LD.F_is_state_of Tb := ⟨by kernel_rfl⟩
instance : LD.F_is_expression_within Tb := ⟨by kernel_rfl⟩
instance : LD.F_is_expression_of Tb := ⟨by kernel_rfl⟩
instance : LD.F_value_in Tb := ⟨by kernel_rfl⟩
instance : LD.F_need_state_of Tb := ⟨by kernel_rfl⟩
instance : LD.F_is_expression Tb := ⟨by kernel_rfl⟩
instance : LD.F_value_of Tb := ⟨by kernel_rfl⟩
instance : LD.F__law_take Tb := ⟨by kernel_rfl⟩
instance : LD.F__law_same Tb := ⟨by kernel_rfl⟩
instance : LD.F__law_int Tb := ⟨by kernel_rfl⟩
instance : LD.F__law_frame Tb := ⟨by kernel_rfl⟩
instance : LD.F__law_states Tb := ⟨by kernel_rfl⟩
instance : LD.F__law_expression Tb := ⟨by kernel_rfl⟩
instance : LD.F__law_value Tb := ⟨by kernel_rfl⟩
instance : LD.F__law_is_expression Tb := ⟨by kernel_rfl⟩
instance : LD.F__law_chain Tb := ⟨by kernel_rfl⟩
instance : LD.F__law_spots Tb := ⟨by kernel_rfl⟩
instance : LD.F__law_put Tb := ⟨by kernel_rfl⟩
theorem f_law_bent : Tb.fn "_law_bent" = some ⟨3, 7, c__law_bent⟩ := by kernel_rfl
theorem f_law_error : Tb.fn "_law_error" = some ⟨3, 5, c__law_error⟩ := by kernel_rfl
@[simp] theorem CC_fn (n : Nat) : (CC n).fn = call Tb n := rfl
def slist (fr : D) : List D := match call Tb 30 "_law_states" [.sh fr] none with
  | .ret (.sh (.list l)) _ => l
  | _ => []
theorem s_all (dl : Option Dl) : ∀ fr ∈ frames, call Tb 30 "_law_states" [.sh fr] dl = .ret (.sh (.list (slist fr))) dl := by
  unfold frames
  refine List.forall_mem_cons.mpr ⟨by kernel_rfl, List.forall_mem_cons.mpr ⟨by kernel_rfl, List.forall_mem_cons.mpr ⟨by kernel_rfl, List.forall_mem_cons.mpr ⟨by kernel_rfl, List.forall_mem_cons.mpr ⟨by kernel_rfl, List.forall_mem_cons.mpr ⟨by kernel_rfl, List.forall_mem_cons.mpr ⟨by kernel_rfl, List.forall_mem_cons.mpr ⟨by kernel_rfl, List.forall_mem_cons.mpr ⟨by kernel_rfl, List.forall_mem_cons.mpr ⟨by kernel_rfl, fun _ z => nomatch z⟩⟩⟩⟩⟩⟩⟩⟩⟩⟩
def farsOf (fr : D) (own0 : D) : List D := match fr, own0 with
  | .tuple (a :: _), .tuple r => [.none, .tuple (r ++ [.int 0]), .tuple (r.drop 1), .list r, .tuple (.bool true :: r.drop 1), .tuple (a :: r.drop 1), .tuple (.int (-1) :: r.drop 1)]
  | _, _ => []
def goodS (ns : List Int) (l : List D) : Bool := l.all (isSt ns) && (decide (l.length ≤ 9) && (decide (2 ≤ l.length) && (ns.all (fun n => decide (n ≤ 10)) && (isFr (frD ns) && match l with
  | x :: _ => (farsOf (frD ns) x).all fun z => !(isSt ns z)
  | _ => false))))
theorem s_good : ∀ fr ∈ frames, ∃ ns : List Int, fr = frD ns ∧ 1 ≤ ns.length ∧ ns.length ≤ 3 ∧ goodS ns (slist fr) = true := by
  unfold frames
  refine List.forall_mem_cons.mpr ⟨⟨[2], rfl, by decide, by decide, by kernel_rfl⟩, List.forall_mem_cons.mpr ⟨⟨[3], rfl, by decide, by decide, by kernel_rfl⟩, List.forall_mem_cons.mpr ⟨⟨[4], rfl, by decide, by decide, by kernel_rfl⟩, List.forall_mem_cons.mpr ⟨⟨[2, 2], rfl, by decide, by decide, by kernel_rfl⟩, List.forall_mem_cons.mpr ⟨⟨[2, 3], rfl, by decide, by decide, by kernel_rfl⟩, List.forall_mem_cons.mpr ⟨⟨[2, 4], rfl, by decide, by decide, by kernel_rfl⟩, List.forall_mem_cons.mpr ⟨⟨[3, 2], rfl, by decide, by decide, by kernel_rfl⟩, List.forall_mem_cons.mpr ⟨⟨[3, 3], rfl, by decide, by decide, by kernel_rfl⟩, List.forall_mem_cons.mpr ⟨⟨[4, 2], rfl, by decide, by decide, by kernel_rfl⟩, List.forall_mem_cons.mpr ⟨⟨[2, 2, 2], rfl, by decide, by decide, by kernel_rfl⟩, fun _ z => nomatch z⟩⟩⟩⟩⟩⟩⟩⟩⟩⟩
end K05
namespace K05
open PySem PySem.Spec PyProof.Rows L2 WV LA LD
def owL : Option (Option Cell) → List D
  | some (some (.ow (.list l))) => l
  | _ => []
def oddL (ns : List Int) : List D := match evSs (CC 29) (takeS 4 c__law_bent) ⟨[some .deal, some (.sh (frD ns)), none, none, none, none, none], none⟩ with
  | .ok .nx s => owL s.env[3]?
  | _ => []
theorem odd_ev (ns : List Int) (t : D) (dl : Option Dl) : evSs (CC 29) (takeS 4 c__law_bent) ⟨[some .deal, some (.sh (frD ns)), some (.sh t), none, none, none, none], dl⟩ = .ok .nx ⟨[some .deal, some (.sh (frD ns)), some (.sh t), some (.ow (.list (oddL ns))), none, none, none], dl⟩ := by kernel_rfl
theorem odd_len (ns : List Int) : (oddL ns).length = 28 := by kernel_rfl
theorem lens_v {C : Cal} {i : Nat} {e : List (Option Cell)} {dl : Option Dl} {ds : List D} (h : e[i]? = some (some (.ow (.list ds)))) : evE C (.bi .len (.v i)) ⟨e, dl⟩ = .ok (.sh (.int ds.length)) ⟨e, dl⟩ := by
  simp [h]
theorem put_lc (ns : List Int) (t : D) (ps od : List D) (hps : ∀ p ∈ ps, ∃ r, p = .tuple r ∧ okP t r ∧ r.length ≤ 10) (h1 : 1 ≤ ps.length) (h2 : ps.length ≤ 100) (h3 : 1 ≤ od.length) (h4 : od.length ≤ 100) (c5 c6 : Option Cell) {dl : Option Dl} {b : Int} (h : Dk dl b) (hb : b + 100 < 2 ^ 60) :
    ∃ (fs : List D) (dl' : Option Dl), evE (CC 29) x__law_bent_1 ⟨[some .deal, some (.sh (frD ns)), some (.sh t), some (.ow (.list od)), some (.ow (.list ps)), c5, c6], dl⟩ = .ok (.fr (.list fs)) ⟨[some .deal, some (.sh (frD ns)), some (.sh t), some (.ow (.list od)), some (.ow (.list ps)), c5, c6], dl'⟩ ∧ fs.length ≤ 6 ∧ Dk dl' (b + 12) := by
  have hit : evI (CC 29) (.rg1 (.lit (.int 6))) ⟨[some .deal, some (.sh (frD ns)), some (.sh t), some (.ow (.list od)), some (.ow (.list ps)), c5, c6], dl⟩ = .ok (rangeD 0 6) ⟨[some .deal, some (.sh (frD ns)), some (.sh t), some (.ow (.list od)), some (.ow (.list ps)), c5, c6], dl⟩ := by
    rw [I_rg1, E_lit, bind_ok]
    show outO (rngItems (.int 0) (.int ((6 : Nat) : Int))) _ = _
    rw [rg_ok (by omega), outO_so]
    rfl
  have hr6 : (rangeD 0 6).length = 6 := rfl
  obtain ⟨fs, dl', q1, q2, q3⟩ := lc_inv (own := [6]) (t := .nm 6) (C := CC 29) (it := .rg1 (.lit (.int 6))) (c := .no) (el := (.call "_law_put" (.cons (.v 2) (.cons (.ix (.v 4) (.call "_law_take" (.cons (.v 0) (.cons (.bi .len (.v 4)) .nil)))) (.cons (.ix (.v 3) (.call "_law_take" (.cons (.v 0) (.cons (.bi .len (.v 3)) .nil)))) .nil))))) (fun i acc d => acc.length = i ∧ Dk d (b + 2 * i)) hit ⟨rfl, by simpa using h⟩ (by rw [hr6, sz]; omega) fun i x acc d hx ⟨i1, i2⟩ => by
    have hi : i < 6 := by
      have := (List.getElem?_eq_some_iff.mp hx).1
      omega
    obtain ⟨j, d1, e1, j1, j2, D1⟩ := q_take (T := Tb) (l := 29) (m := ps.length) (by omega) i2 (by omega) (by omega) (by omega)
    obtain ⟨k, d2, e2, k1, k2, D2⟩ := q_take (T := Tb) (l := 29) (m := od.length) (by omega) D1 (by omega) (by omega) (by omega)
    obtain ⟨j, rfl⟩ : ∃ n : Nat, j = (n : Int) := ⟨j.toNat, by omega⟩
    obtain ⟨k, rfl⟩ : ∃ n : Nat, k = (n : Int) := ⟨k.toNat, by omega⟩
    have g1 : gIx (.list ps) (.int (j : Int)) = some (.sh (ps[j]'(by omega))) := gIx_lN (List.getElem?_eq_getElem (by omega))
    have g2 : gIx (.list od) (.int (k : Int)) = some (.sh (od[k]'(by omega))) := gIx_lN (List.getElem?_eq_getElem (by omega))
    obtain ⟨r, er, hr, hl⟩ := hps (ps[j]'(by omega)) (List.getElem_mem _)
    rw [er] at g1
    obtain ⟨o, eo⟩ := q_law_put (T := Tb) (part := od[k]'(by omega)) hr (by omega) (l := 29) (by omega)
    refine ⟨some o, [some .deal, some (.sh (frD ns)), some (.sh t), some (.ow (.list od)), some (.ow (.list ps)), c5, some (.sh x)], d2, ?_, by simp [wipeE], by simp [i1], D2.mono (by omega)⟩
    simp [lcBody, bindT, wipeE, e1, e2, g1, g2, eo]
  exact ⟨fs, dl', q1, by rw [q2, hr6]; omega, q3.mono (by rw [hr6]; omega)⟩
theorem p_law_bent (ns : List Int) (t : D) (ht : isE ns.length 4 t = true) {dl : Option Dl} {b : Int} (h : Dk dl b) (hb : b + 100 < 2 ^ 60) :
    ∃ (fs : List D) (dl' : Option Dl), call Tb 30 "_law_bent" [.deal, .sh (frD ns), .sh t] dl = .ret (.fr (.list fs)) dl' ∧ fs.length ≤ 8 ∧ Dk dl' (b + 13) := by
  obtain ⟨ps, e1, hp, l1, l2⟩ := q_law_spots (T := Tb) (k := 4) (l := 29) (by omega) (by omega) ht
  have h16 : (2 : Nat) ^ 4 = 16 := by decide
  have ol := odd_len ns
  obtain ⟨fs, dl1, e2, l3, D1⟩ := put_lc ns t ps (oddL ns) (fun p hq => by obtain ⟨r, q1, q2, q3⟩ := hp p hq; exact ⟨r, q1, q2, by omega⟩) l1 (by omega) (by omega) (by omega) none none h hb
  obtain ⟨k, dl2, e3, k1, k2, D2⟩ := q_take (T := Tb) (l := 29) (m := (oddL ns).length) (by omega) D1 (by omega) (by omega) (by omega)
  obtain ⟨k, rfl⟩ : ∃ n : Nat, k = (n : Int) := ⟨k.toNat, by omega⟩
  have g2 : gIx (.list (oddL ns)) (.int (k : Int)) = some (.sh ((oddL ns)[k]'(by omega))) := gIx_lN (List.getElem?_eq_getElem (by omega))
  have hlst : ∃ tl : List D, biG .lst t = some (.fr (.list tl)) := by
    rcases isE_cases ht with ⟨n, rfl, _, _⟩ | ⟨n, rfl, _, _⟩ | ⟨x, y, z, rfl, _⟩ <;> exact ⟨_, rfl⟩
  obtain ⟨tl, hlst⟩ := hlst
  have ga : gAdd (.list fs) (.list [(oddL ns)[k]'(by omega), .list tl]) = some (.fr (.list (fs ++ [(oddL ns)[k]'(by omega), .list tl]))) := add_l (by simp; omega)
  refine ⟨fs ++ [(oddL ns)[k]'(by omega), .list tl], dl2, ?_, by simp; omega, D2.mono (by omega)⟩
  rw [call_at f_law_bent (by omega) rfl]
  show done (evSs (CC 29) c__law_bent ⟨[some .deal, some (.sh (frD ns)), some (.sh t), none, none, none, none], dl⟩) = _
  rw [Ss_split 4, odd_ev, bind_ok, n_nx]
  show done (evSs (CC 29) (.cons (.asg 4 (.call "_law_spots" (.cons (.v 2) .nil))) (.cons (.asg 5 x__law_bent_1) (.cons (.ret (.bin .add (.v 5) (.lst (.cons (.ix (.v 3) (.call "_law_take" (.cons (.v 0) (.cons (.bi .len (.v 3)) .nil)))) (.cons (.bi .lst (.v 2)) .nil))))) .nil))) _) = _
  have s1 : evS (CC 29) (.asg 4 (.call "_law_spots" (.cons (.v 2) .nil))) ⟨[some .deal, some (.sh (frD ns)), some (.sh t), some (.ow (.list (oddL ns))), none, none, none], dl⟩ = .ok .nx ⟨[some .deal, some (.sh (frD ns)), some (.sh t), some (.ow (.list (oddL ns))), some (.ow (.list ps)), none, none], dl⟩ := by
    simp [e1]
  rw [Ss_cons, s1, bind_ok, n_nx, Ss_cons, S_asg, e2, bind_ok]
  simp only [bind_ok, n_nx, cell_fr, setS, List.set_cons_succ, List.set_cons_zero]
  simp [e3, g2, hlst, ga]
end K05
namespace K05
open PySem PySem.Spec PyProof.Rows L2 WV LA LD
theorem x1 : (Str.ofString "BadFrame") ∈ T.exs := by decide +kernel
theorem x2 : (Str.ofString "BadExpression") ∈ T.exs := by decide +kernel
theorem x3 : (Str.ofString "BadState") ∈ T.exs := by decide +kernel
theorem er (fr e st : D) (z : Str) (dl : Option Dl) (r : CRes) (h : ∀ dl, call Tb 29 "value_of" [.sh fr, .sh e, .sh st] dl = .exc z dl) (w : Str) (hx : z ∈ T.exs)
    (hw : (z = "BadFrame" ∧ w = "frame") ∨ (z = "BadExpression" ∧ w = "expression") ∨ (z = "BadState" ∧ w = "state")) : call Tb 30 "_law_error" [.sh fr, .sh e, .sh st] dl = .ret (.sh (.str w)) dl := by
  rw [call_at f_law_error (by omega) rfl]
  show done (evSs (CC 29) c__law_error ⟨[some (.sh fr), some (.sh e), some (.sh st), none, none], dl⟩) = _
  have a1 : evSs (CC 29) (.cons (.asg 4 (.callk "value_of" .nil (.cons (.v 0) (.cons (.v 1) (.cons (.v 2) .nil))) ["frame", "expression", "state"] [0, 1, 2])) .nil) ⟨[some (.sh fr), some (.sh e), some (.sh st), some (.sh (.str "")), none], dl⟩ = .exc z ⟨[some (.sh fr), some (.sh e), some (.sh st), some (.sh (.str "")), none], dl⟩ := by
    simp [h]
  have a2 : evS (CC 29) x__law_error_1 ⟨[some (.sh fr), some (.sh e), some (.sh st), some (.sh (.str "")), none], dl⟩ = .ok .nx ⟨[some (.sh fr), some (.sh e), some (.sh st), some (.sh (.str w)), none], dl⟩ := by
    unfold x__law_error_1
    rw [S_try, a1]
    show (if z ∈ T.exs then _ else _) = _
    rw [if_pos hx]
    rcases hw with ⟨rfl, rfl⟩ | ⟨rfl, rfl⟩ | ⟨rfl, rfl⟩ <;> rfl
  unfold c__law_error
  rw [Ss_cons]
  simp [a2]
theorem er_ok (fr e st : D) (dl : Option Dl) (v : RV) (h : ∀ dl, call Tb 29 "value_of" [.sh fr, .sh e, .sh st] dl = .ret v dl) : call Tb 30 "_law_error" [.sh fr, .sh e, .sh st] dl = .ret (.sh (.str "")) dl := by
  rw [call_at f_law_error (by omega) rfl]
  show done (evSs (CC 29) c__law_error ⟨[some (.sh fr), some (.sh e), some (.sh st), none, none], dl⟩) = _
  have a1 : evSs (CC 29) (.cons (.asg 4 (.callk "value_of" .nil (.cons (.v 0) (.cons (.v 1) (.cons (.v 2) .nil))) ["frame", "expression", "state"] [0, 1, 2])) .nil) ⟨[some (.sh fr), some (.sh e), some (.sh st), some (.sh (.str "")), none], dl⟩ = .ok .nx ⟨[some (.sh fr), some (.sh e), some (.sh st), some (.sh (.str "")), some v.cell], dl⟩ := by
    simp [h]
  have a2 : evS (CC 29) x__law_error_1 ⟨[some (.sh fr), some (.sh e), some (.sh st), some (.sh (.str "")), none], dl⟩ = .ok .nx ⟨[some (.sh fr), some (.sh e), some (.sh st), some (.sh (.str "")), some v.cell], dl⟩ := by
    unfold x__law_error_1
    rw [S_try, a1]
  unfold c__law_error
  rw [Ss_cons]
  simp [a2]
/-- a drawn frame with its facts -/
structure Fx (ns : List Int) (own : List D) (s0 : List Int) (sl : List Int) : Prop where
  n1 : 1 ≤ ns.length
  n3 : ns.length ≤ 3
  fr : isFr (frD ns) = true
  all : ∀ d ∈ own, ∃ st, d = frD st ∧ okSt ns.length st ∧ isSt ns d = true
  len : own.length ≤ 9
  two : 2 ≤ own.length
  h0 : gIx (.list own) (.int 0) = some (.sh (frD s0))
  hl : gIx (.list own) (.int (-1)) = some (.sh (frD sl))
  i0 : isSt ns (frD s0) = true
  il : isSt ns (frD sl) = true
  o0 : okSt ns.length s0
  ol : okSt ns.length sl
  far : ∀ z ∈ farsOf (frD ns) (frD s0), isSt ns z = false
theorem fx_of {fr : D} (hfr : fr ∈ frames) : ∃ ns s0 sl, fr = frD ns ∧ Fx ns (slist fr) s0 sl := by
  obtain ⟨ns, rfl, n1, n3, g⟩ := s_good fr hfr
  generalize slist (frD ns) = own at g
  unfold goodS at g
  simp only [Bool.and_eq_true, decide_eq_true_eq] at g
  obtain ⟨g1, g2, g3, g4, g5, g6⟩ := g
  have hb : ∀ n ∈ ns, n ≤ 10 := fun n hn => by simpa using List.all_eq_true.mp g4 n hn
  have all : ∀ d ∈ own, ∃ st, d = frD st ∧ okSt ns.length st ∧ isSt ns d = true := fun d hd => by
    have h := List.all_eq_true.mp g1 d hd
    obtain ⟨st, e, o⟩ := st_ok hb h
    exact ⟨st, e, o, h⟩
  have hne : own ≠ [] := fun e => by rw [e] at g3; simp at g3
  obtain ⟨sl, el, ol, il⟩ := all _ (List.getLast_mem hne)
  cases own with
  | nil => exact absurd rfl hne
  | cons x r =>
    obtain ⟨s0, e0, o0, i0⟩ := all x (List.mem_cons_self ..)
    subst e0
    refine ⟨ns, s0, sl, rfl, n1, n3, g5, all, g2, g3, by rw [gIx_l0], by rw [gIx_last hne, el], i0, by rw [← el]; exact il, o0, ol, fun z hz => ?_⟩
    have := List.all_eq_true.mp g6 z hz
    simpa using this
section
variable {ns : List Int} {own : List D} {s0 sl : List Int} (X : Fx ns own s0 sl) {dl : Option Dl}
include X
theorem le_frame {fr e st : D} (hf : isFr fr = false) : call Tb 30 "_law_error" [.sh fr, .sh e, .sh st] dl = .ret (.sh (.str "frame")) dl :=
  er fr e st "BadFrame" dl .stuck (fun dl => vo_frame (T := Tb) (l := 29) (by omega) hf) "frame" x1 (.inl ⟨rfl, rfl⟩)
theorem le_expr {e st : D} (he : isE ns.length 4 e = false) : call Tb 30 "_law_error" [.sh (frD ns), .sh e, .sh st] dl = .ret (.sh (.str "expression")) dl :=
  er (frD ns) e st "BadExpression" dl .stuck (fun dl => vo_expr (T := Tb) (l := 29) (by omega) X.fr he) "expression" x2 (.inr (.inl ⟨rfl, rfl⟩))
theorem le_state {e st : D} (he : isE ns.length 4 e = true) (hs : isSt ns st = false) : call Tb 30 "_law_error" [.sh (frD ns), .sh e, .sh st] dl = .ret (.sh (.str "state")) dl :=
  er (frD ns) e st "BadState" dl .stuck (fun dl => vo_state (T := Tb) (l := 29) (by omega) X.n3 X.fr he hs) "state" x3 (.inr (.inr ⟨rfl, rfl⟩))
theorem le_ok {e : D} {st : List Int} (he : isE ns.length 4 e = true) (hs : isSt ns (frD st) = true) (ho : okSt ns.length st) : call Tb 30 "_law_error" [.sh (frD ns), .sh e, .sh (frD st)] dl = .ret (.sh (.str "")) dl :=
  er_ok (frD ns) e (frD st) dl _ fun dl => vo_ok (T := Tb) (l := 29) (by omega) X.n3 X.fr he hs ho
end
end K05
namespace K05
open PySem PySem.Spec PyProof.Rows L2 WV LA LD
theorem for_keep {α : Type} {f : D → Sto → Out Fl} (env : α → Sto) : ∀ (items : List D) (c : α), (∀ x ∈ items, ∀ c, ∃ c', f x (env c) = .ok .nx (env c')) → ∃ c', forLoop f items (env c) = .ok .nx (env c')
  | [], c, _ => ⟨c, rfl⟩
  | x :: r, c, h => by
    obtain ⟨c1, e1⟩ := h x (List.mem_cons_self ..) c
    obtain ⟨c2, e2⟩ := for_keep env r c1 fun y hy => h y (List.mem_cons_of_mem _ hy)
    refine ⟨c2, ?_⟩
    unfold forLoop
    rw [e1]
    exact e2
abbrev E14 (sc : List Int) (c2 c3 c4 c5 c6 c7 c8 c9 c10 c11 c12 c13 : Option Cell) : List (Option Cell) := [some (.scr sc), some .deal, c2, c3, c4, c5, c6, c7, c8, c9, c10, c11, c12, c13]
theorem ok_int (i : Int) : okSame (.int i) := ⟨rfl, rfl, by simp [PyData.depth]⟩
theorem ok_bool (b : Bool) : okSame (.bool b) := ⟨rfl, rfl, by simp [PyData.depth]⟩
def b1 : Sms := match x_law_1 with
  | .forr _ _ b => b
  | _ => .nil
def b2 : Sms := match x_law_2 with
  | .forr _ _ b => b
  | _ => .nil
def b3 : Sms := match x_law_3 with
  | .forr _ _ b => b
  | _ => .nil
def b4 : Sms := match x_law_4 with
  | .forr _ _ b => b
  | _ => .nil
section
variable {sc ns : List Int} {own : List D} {s0 sl : List Int} (X : Fx ns own s0 sl)
include X
theorem st_turn (c2 c4 c5 c7 c8 c9 c10 c11 c12 c13 : Option Cell) {e : D} (he : isE ns.length 4 e = true) {x : D} (hx : x ∈ own) (dl : Option Dl) :
    forBody (.nm 7) (evSs (CC 30) b1) x ⟨E14 sc c2 (some (.sh (frD ns))) c4 c5 (some (.sh e)) c7 c8 c9 c10 c11 c12 c13, dl⟩ = .ok .nx ⟨E14 sc c2 (some (.sh (frD ns))) c4 c5 (some (.sh e)) (some (.sh x)) c8 c9 c10 c11 c12 c13, dl⟩ := by
  obtain ⟨st, rfl, o, i⟩ := X.all x hx
  have e1 := fun dl => vo_ok (T := Tb) (l := 30) (dl := dl) (by omega) X.n3 X.fr he i o
  have e2 := fun dl => q_law_value (T := Tb) o (k := 4) (l := 30) (by omega) (by omega) he (dl := dl)
  have e3 := fun dl => q_law_same (T := Tb) (l := 30) (dl := dl) (by omega) (ok_int (valE st 4 e)) (by simp [szD])
  simp [forBody, bindT, b1, e1, e2, e3]
theorem th_turn (c2 c5 c6 c7 c8 c9 c10 c11 c12 c13 : Option Cell) (x : D) (dl : Option Dl) :
    forBody (.nm 8) (evSs (CC 30) b2) x ⟨E14 sc c2 (some (.sh (frD ns))) (some (.sh (.list own))) c5 c6 c7 c8 c9 c10 c11 c12 c13, dl⟩ = .ok .nx ⟨E14 sc c2 (some (.sh (frD ns))) (some (.sh (.list own))) c5 c6 c7 (some (.sh x)) (some (.sh (.bool (isE ns.length 4 x)))) c10 c11 c12 c13, dl⟩ := by
  have e1 := fun dl => q_is_expression (T := Tb) (l := 30) (dl := dl) X.fr (by omega) (d := x)
  have e2 := fun dl => q_law_is_expression (T := Tb) (ns := ns) (k := 4) (l := 30) (by omega) (d := x) (dl := dl)
  have e3 := fun b dl => q_law_same (T := Tb) (l := 30) (dl := dl) (by omega) (ok_bool b) (by simp [szD])
  have h0 := X.h0
  simp at e2
  cases hE : isE ns.length 4 x with
  | true =>
    have e4 := fun dl => le_ok X (dl := dl) hE X.i0 X.o0
    rw [hE] at e1 e2
    simp [forBody, bindT, b2, e1, e2, e3, e4, h0]
  | false =>
    have e4 := fun dl => le_expr X (dl := dl) (st := frD s0) hE
    rw [hE] at e1 e2
    simp [forBody, bindT, b2, e1, e2, e3, e4, h0]
theorem tree_turn (c2 c5 c6 c7 c8 c9 c10 c11 c12 c13 : Option Cell) {e : D} (he : isE ns.length 4 e = true) {dl : Option Dl} {b : Int} (h : Dk dl b) (hb : b + 1000 < 2 ^ 60) :
    ∃ (c7' c8' c9' : Option Cell) (dl' : Option Dl), forBody (.nm 6) (evSs (CC 30) b3) e ⟨E14 sc c2 (some (.sh (frD ns))) (some (.sh (.list own))) c5 c6 c7 c8 c9 c10 c11 c12 c13, dl⟩ = .ok .nx ⟨E14 sc c2 (some (.sh (frD ns))) (some (.sh (.list own))) c5 (some (.sh e)) c7' c8' c9' c10 c11 c12 c13, dl'⟩ ∧ Dk dl' (b + 60) := by
  have e1 := fun dl => q_is_expression (T := Tb) (l := 30) (dl := dl) X.fr (by omega) (d := e)
  rw [he] at e1
  obtain ⟨k, dl1, e2, k1, k2, D1⟩ := q_take (T := Tb) (l := 30) (m := own.length) (by omega) h (by omega) (by have := X.two; omega) (by have := X.len; omega)
  obtain ⟨k, rfl⟩ : ∃ n : Nat, k = (n : Int) := ⟨k.toNat, by omega⟩
  have g1 : gIx (.list own) (.int (k : Int)) = some (.sh (own[k]'(by omega))) := gIx_lN (List.getElem?_eq_getElem (by omega))
  have h0 := X.h0
  have hl := X.hl
  have m0 : frD s0 ∈ own := by
    have h2 := X.two
    have := gIx_lN (ds := own) (k := 0) (d := own[0]'(by omega)) (List.getElem?_eq_getElem (by omega))
    have h0' : gIx (.list own) (.int ((0 : Nat) : Int)) = _ := h0
    rw [this] at h0'
    injection h0' with q
    injection q with q
    rw [← q]
    exact List.getElem_mem _
  have ml : frD sl ∈ own := by
    have hne : own ≠ [] := fun z => by have := X.two; rw [z] at this; simp at this
    have := gIx_last hne
    rw [hl] at this
    injection this with q
    injection q with q
    rw [q]
    exact List.getLast_mem hne
  obtain ⟨c7', l1⟩ := for_keep (f := forBody (.nm 7) (evSs (CC 30) b1)) (fun c7 => ⟨E14 sc c2 (some (.sh (frD ns))) (some (.sh (.list own))) c5 (some (.sh e)) c7 c8 c9 c10 c11 c12 c13, dl1⟩) [own[k]'(by omega), frD sl, frD s0] c7 fun x hx c => by
    have : x ∈ own := by
      simp only [List.mem_cons, List.not_mem_nil, or_false] at hx
      rcases hx with rfl | rfl | rfl
      · exact List.getElem_mem _
      · exact ml
      · exact m0
    exact ⟨_, st_turn X c2 _ c5 c c8 c9 c10 c11 c12 c13 he this dl1⟩
  obtain ⟨fs, dl2, e3, l3, D2⟩ := p_law_bent ns e he D1 (by omega)
  obtain ⟨ch, dl3, e4, _, D3⟩ := q_law_chain (T := Tb) X.n1 X.n3 (l := 30) (by omega) (d := 4) (by omega) D2 (by omega)
  have ga : gAdd (.list fs) (.list [ch]) = some (.fr (.list (fs ++ [ch]))) := add_l (by simp; omega)
  obtain ⟨c89, l2⟩ := for_keep (f := forBody (.nm 8) (evSs (CC 30) b2)) (fun (c : Option Cell × Option Cell) => ⟨E14 sc c2 (some (.sh (frD ns))) (some (.sh (.list own))) c5 (some (.sh e)) c7' c.1 c.2 c10 c11 c12 c13, dl3⟩) (fs ++ [ch]) (c8, c9) fun x _ c => ⟨(_, _), th_turn X c2 c5 _ c7' c.1 c.2 c10 c11 c12 c13 x dl3⟩
  refine ⟨c7', c89.1, c89.2, dl3, ?_, D3.mono (by omega)⟩
  have st1 : evS (CC 30) (.iff (.cmp .isn (.callk "is_expression" .nil (.cons (.v 6) (.cons (.v 3) .nil)) ["thing", "frame"] [1, 0]) (.lit (.bool true))) (.cons (.ret (.lit (.bool false))) .nil) .nil) ⟨E14 sc c2 (some (.sh (frD ns))) (some (.sh (.list own))) c5 (some (.sh e)) c7 c8 c9 c10 c11 c12 c13, dl⟩ = .ok .nx ⟨E14 sc c2 (some (.sh (frD ns))) (some (.sh (.list own))) c5 (some (.sh e)) c7 c8 c9 c10 c11 c12 c13, dl⟩ := by
    simp [e1]
  have st2 : evS (CC 30) x_law_1 ⟨E14 sc c2 (some (.sh (frD ns))) (some (.sh (.list own))) c5 (some (.sh e)) c7 c8 c9 c10 c11 c12 c13, dl⟩ = .ok .nx ⟨E14 sc c2 (some (.sh (frD ns))) (some (.sh (.list own))) c5 (some (.sh e)) c7' c8 c9 c10 c11 c12 c13, dl1⟩ := by
    unfold x_law_1
    rw [S_for]
    have hi : evI (CC 30) (.seq (.lst (.cons (.ix (.v 4) (.call "_law_take" (.cons (.v 1) (.cons (.bi .len (.v 4)) .nil)))) (.cons (.ix (.v 4) (.neg (.lit (.int 1)))) (.cons (.ix (.v 4) (.lit (.int 0))) .nil))))) ⟨E14 sc c2 (some (.sh (frD ns))) (some (.sh (.list own))) c5 (some (.sh e)) c7 c8 c9 c10 c11 c12 c13, dl⟩ = .ok [own[k]'(by omega), frD sl, frD s0] ⟨E14 sc c2 (some (.sh (frD ns))) (some (.sh (.list own))) c5 (some (.sh e)) c7 c8 c9 c10 c11 c12 c13, dl1⟩ := by
      simp [e2, g1, h0, hl, seqItems]
    rw [hi, bind_ok]
    exact l1
  have st3 : evS (CC 30) x_law_2 ⟨E14 sc c2 (some (.sh (frD ns))) (some (.sh (.list own))) c5 (some (.sh e)) c7' c8 c9 c10 c11 c12 c13, dl1⟩ = .ok .nx ⟨E14 sc c2 (some (.sh (frD ns))) (some (.sh (.list own))) c5 (some (.sh e)) c7' c89.1 c89.2 c10 c11 c12 c13, dl3⟩ := by
    unfold x_law_2
    rw [S_for]
    simp at e4
    have hi : evI (CC 30) (.seq (.bin .add (.call "_law_bent" (.cons (.v 1) (.cons (.v 3) (.cons (.v 6) .nil)))) (.lst (.cons (.call "_law_chain" (.cons (.v 1) (.cons (.v 3) (.cons (.lit (.int 5)) .nil)))) .nil)))) ⟨E14 sc c2 (some (.sh (frD ns))) (some (.sh (.list own))) c5 (some (.sh e)) c7' c8 c9 c10 c11 c12 c13, dl1⟩ = .ok (fs ++ [ch]) ⟨E14 sc c2 (some (.sh (frD ns))) (some (.sh (.list own))) c5 (some (.sh e)) c7' c8 c9 c10 c11 c12 c13, dl3⟩ := by
      simp [e3, e4, ga, seqItems]
    rw [hi, bind_ok]
    exact l2
  show (evSs (CC 30) b3) _ = _
  show evSs (CC 30) (.cons _ (.cons x_law_1 (.cons x_law_2 .nil))) ⟨E14 sc c2 (some (.sh (frD ns))) (some (.sh (.list own))) c5 (some (.sh e)) c7 c8 c9 c10 c11 c12 c13, dl⟩ = _
  rw [Ss_cons, st1, bind_ok, n_nx, Ss_cons, st2, bind_ok, n_nx, Ss_cons, st3, bind_ok, n_nx, Ss_nil]
end
def wrongs : List D := [.none, .tuple [], .tuple [.int 1], .tuple [.int 4, .int 3], .list [.int 2], .tuple [.bool false, .int 2]]
theorem wr_no : ∀ w ∈ wrongs, isFr w = false := by unfold wrongs; decide
def bads (m : Int) : List D := [.tuple [.str "value", .int 10], .none, .list [.str "value", .int 1], .tuple [.str "cell", .int m]]
theorem bad_no (m : Int) : ∀ w ∈ bads m, isE m 4 w = false := by
  unfold bads
  intro w hw
  simp only [List.mem_cons, List.not_mem_nil, or_false] at hw
  rcases hw with rfl | rfl | rfl | rfl
  · rfl
  · rfl
  · rfl
  · show wi 0 (m - 1) (.int m) = false
    simp [wi]
    omega
theorem words_ok : gNe (.list [.str "frame", .str "expression", .str "state", .str ""]) (.list [.str "frame", .str "expression", .str "state", .str ""]) = some (.sh (.bool false)) := by kernel_rfl
theorem pick_mem {l : List D} {k : Int} (h1 : 0 ≤ k) (h2 : k < l.length) : ∃ d, gIx (.list l) (.int k) = some (.sh d) ∧ d ∈ l := by
  obtain ⟨k, rfl⟩ : ∃ n : Nat, k = (n : Int) := ⟨k.toNat, by omega⟩
  exact ⟨l[k]'(by omega), gIx_lN (List.getElem?_eq_getElem (by omega)), List.getElem_mem _⟩
def farE : Ex := (.lst (.cons (.lit (.none)) (.cons (.bin .add (.ix (.v 4) (.lit (.int 0))) (.tup (.cons (.lit (.int 0)) .nil))) (.cons (.slc (.ix (.v 4) (.lit (.int 0))) (.so (.lit (.int 1))) .no) (.cons (.bi .lst (.ix (.v 4) (.lit (.int 0)))) (.cons (.bin .add (.tup (.cons (.lit (.bool true)) .nil)) (.slc (.ix (.v 4) (.lit (.int 0))) (.so (.lit (.int 1))) .no)) (.cons (.bin .add (.tup (.cons (.ix (.v 3) (.lit (.int 0))) .nil)) (.slc (.ix (.v 4) (.lit (.int 0))) (.so (.lit (.int 1))) .no)) (.cons (.bin .add (.tup (.cons (.neg (.lit (.int 1))) .nil)) (.slc (.ix (.v 4) (.lit (.int 0))) (.so (.lit (.int 1))) .no)) .nil))))))))
theorem far_ev {ns : List Int} {own : List D} {s0 sl : List Int} (X : Fx ns own s0 sl) (C : Cal) (sc : List Int) (c2 c5 c6 c7 c8 c9 c10 c11 c12 c13 : Option Cell) (dl : Option Dl) :
    evE C farE ⟨E14 sc c2 (some (.sh (frD ns))) (some (.sh (.list own))) c5 c6 c7 c8 c9 c10 c11 c12 c13, dl⟩ = .ok (.fr (.list (farsOf (frD ns) (frD s0)))) ⟨E14 sc c2 (some (.sh (frD ns))) (some (.sh (.list own))) c5 c6 c7 c8 c9 c10 c11 c12 c13, dl⟩ ∧ (farsOf (frD ns) (frD s0)).length = 7 := by
  have h0 := X.h0
  have hl := X.o0.1
  have n1 := X.n1
  have n3 := X.n3
  obtain ⟨x, q, rfl⟩ : ∃ x q, ns = x :: q := by
    cases ns with
    | nil => simp at n1
    | cons x q => exact ⟨x, q, rfl⟩
  obtain ⟨a, r, rfl⟩ : ∃ a r, s0 = a :: r := by
    cases s0 with
    | nil => simp at hl; omega
    | cons a r => exact ⟨a, r, rfl⟩
  have hr : r.length ≤ 2 := by simp at hl n3; omega
  have hc : cutD (PyData.int a :: r.map PyData.int) (some 1) none = r.map PyData.int := cut_tl (by simp; omega)
  have a1 : gAdd (.tuple (.int a :: r.map PyData.int)) (.tuple [.int 0]) = some (.sh (.tuple (.int a :: r.map PyData.int ++ [.int 0]))) := add_t (by simp; omega)
  have a2 : ∀ z : D, gAdd (.tuple [z]) (.tuple (r.map PyData.int)) = some (.sh (.tuple (z :: r.map PyData.int))) := fun z => add_t (by simp; omega)
  refine ⟨?_, rfl⟩
  simp at a1
  have h0' : gIx (.list own) (.int 0) = some (.sh (.tuple (.int a :: r.map PyData.int))) := h0
  have hx : gIx (frD (x :: q)) (.int 0) = some (.sh (.int x)) := gIx_t0
  simp [farE, h0', hc, a1, a2, hx]
  rfl
theorem turn_ev (sc : List Int) (c2 c3 c4 c5 c6 c7 c8 c9 c10 c11 c12 c13 : Option Cell) {dl : Option Dl} {b : Int} (h : Dk dl b) (hb : b + 3000 < 2 ^ 60) :
    ∃ (c3' c4' c5' c6' c7' c8' c9' c10' c11' c12' c13' : Option Cell) (dl' : Option Dl), evSs (CC 30) b4 ⟨E14 sc c2 c3 c4 c5 c6 c7 c8 c9 c10 c11 c12 c13, dl⟩ = .ok .nx ⟨E14 sc c2 c3' c4' c5' c6' c7' c8' c9' c10' c11' c12' c13', dl'⟩ ∧ Dk dl' (b + 400) := by
  obtain ⟨fr, dl1, e1, hfr, D1⟩ := q_law_frame9 (T := Tb) (l := 30) (by omega) h (by omega)
  have e2 := fun dl => s_all dl fr hfr
  obtain ⟨ns, s0, sl, efr, X⟩ := fx_of hfr
  subst efr
  generalize slist (frD ns) = own at e2 X
  obtain ⟨t1, dl2, e3, h1, D2⟩ := q_law_expression (T := Tb) X.n1 X.n3 3 (l := 30) (by omega) D1 (by omega)
  obtain ⟨t2, dl3, e4, h2, D3⟩ := q_law_chain (T := Tb) X.n1 X.n3 (l := 30) (by omega) (d := 3) (by omega) D2 (by omega)
  obtain ⟨k, dl4, e5, k1, k2, D4⟩ := q_take (T := Tb) (l := 30) (m := 3) (by omega) D3 (by omega) (by omega) (by omega)
  obtain ⟨k, rfl⟩ : ∃ n : Nat, k = (n : Int) := ⟨k.toNat, by omega⟩
  obtain ⟨t3, dl5, e6, h3, D5⟩ := q_law_chain (T := Tb) X.n1 X.n3 (l := 30) (by omega) (d := k) (by omega) D4 (by omega)
  have h3' : isE ns.length 4 t3 = true := isE_mono (by omega) h3
  have hp : (2 : Int) ^ (3 + 2) = 32 := by decide
  have hall : ∀ e ∈ [t1, t2, t3], isE ns.length 4 e = true := fun e he => by
    simp only [List.mem_cons, List.not_mem_nil, or_false] at he
    rcases he with rfl | rfl | rfl
    · exact h1
    · exact h2
    · exact h3'
  obtain ⟨s', ef, c6', c7', c8', c9', dl6, rfl, D6⟩ := for_inv (f := forBody (.nm 6) (evSs (CC 30) b3)) (items := [t1, t2, t3]) (s := ⟨E14 sc c2 (some (.sh (frD ns))) (some (.sh (.list own))) (some (.sh (.list [t1, t2, t3]))) c6 c7 c8 c9 c10 c11 c12 c13, dl5⟩)
    (fun i s => ∃ c6 c7 c8 c9 dl, s = ⟨E14 sc c2 (some (.sh (frD ns))) (some (.sh (.list own))) (some (.sh (.list [t1, t2, t3]))) c6 c7 c8 c9 c10 c11 c12 c13, dl⟩ ∧ Dk dl (b + 150 + 60 * i)) ⟨_, _, _, _, _, rfl, D5.mono (by omega)⟩ fun i x s hx ⟨c6, c7, c8, c9, dl, hs, Di⟩ => by
      subst hs
      have hi : i < 3 := (List.getElem?_eq_some_iff.mp hx).1
      obtain ⟨c7', c8', c9', dl', e, D'⟩ := tree_turn X c2 (some (.sh (.list [t1, t2, t3]))) c6 c7 c8 c9 c10 c11 c12 c13 (hall x (List.mem_of_getElem? hx)) Di (by omega)
      exact ⟨_, e, _, _, _, _, dl', rfl, D'.mono (by omega)⟩
  obtain ⟨j1, dl7, e7, p1, p2, D7⟩ := q_take (T := Tb) (l := 30) (m := 4) (by omega) D6 (by simp; omega) (by omega) (by omega)
  obtain ⟨bad, g7, m7⟩ := pick_mem (l := bads ns.length) p1 p2
  obtain ⟨j2, dl8, e8, p3, p4, D8⟩ := q_take (T := Tb) (l := 30) (m := 7) (by omega) D7 (by simp; omega) (by omega) (by omega)
  have fe := fun dl => far_ev X (CC 30) sc c2 (some (.sh (.list [t1, t2, t3]))) c6' c7' c8' c9' (some (.sh bad)) c11 c12 c13 dl
  obtain ⟨far, g8, m8⟩ := pick_mem (l := farsOf (frD ns) (frD s0)) p3 (by rw [(fe none).2]; omega)
  obtain ⟨j3, dl9, e9, p5, p6, D9⟩ := q_take (T := Tb) (l := 30) (m := 6) (by omega) D8 (by simp; omega) (by omega) (by omega)
  obtain ⟨wr, g9, m9⟩ := pick_mem (l := wrongs) p5 p6
  have fin := D9.mono (b' := b + 400) (by simp; omega)
  have w1 := fun dl => le_frame X (dl := dl) (e := bad) (st := far) (wr_no wr m9)
  have w2 := fun dl => le_expr X (dl := dl) (st := far) (bad_no _ bad m7)
  have w3 := fun dl => le_state X (dl := dl) h1 (X.far far m8)
  have w4 := fun dl => le_ok X (dl := dl) h1 X.il X.ol
  have hl := X.hl
  unfold bads at g7
  unfold wrongs at g9
  refine ⟨some (.sh (frD ns)), some (.sh (.list own)), some (.sh (.list [t1, t2, t3])), c6', c7', c8', c9', some (.sh bad), some (.sh far), some (.sh wr), some (.ow (.list [.str "frame", .str "expression", .str "state", .str ""])), dl9, ?_, fin⟩
  simp at e3 e4 e6
  have s1 : evS (CC 30) (.asg 3 (.call "_law_frame" (.cons (.v 1) (.cons (.lit (.int 9)) .nil)))) ⟨E14 sc c2 c3 c4 c5 c6 c7 c8 c9 c10 c11 c12 c13, dl⟩ = .ok .nx ⟨E14 sc c2 (some (.sh (frD ns))) c4 c5 c6 c7 c8 c9 c10 c11 c12 c13, dl1⟩ := by simp [e1]
  have s2 : evS (CC 30) (.asg 4 (.call "_law_states" (.cons (.v 3) .nil))) ⟨E14 sc c2 (some (.sh (frD ns))) c4 c5 c6 c7 c8 c9 c10 c11 c12 c13, dl1⟩ = .ok .nx ⟨E14 sc c2 (some (.sh (frD ns))) (some (.sh (.list own))) c5 c6 c7 c8 c9 c10 c11 c12 c13, dl1⟩ := by simp [e2]
  have s3 : evS (CC 30) (.asg 5 (.lst (.cons (.call "_law_expression" (.cons (.v 1) (.cons (.v 3) (.cons (.lit (.int 4)) .nil)))) (.cons (.call "_law_chain" (.cons (.v 1) (.cons (.v 3) (.cons (.lit (.int 4)) .nil)))) (.cons (.call "_law_chain" (.cons (.v 1) (.cons (.v 3) (.cons (.bin .add (.lit (.int 1)) (.call "_law_take" (.cons (.v 1) (.cons (.lit (.int 3)) .nil)))) .nil)))) .nil))))) ⟨E14 sc c2 (some (.sh (frD ns))) (some (.sh (.list own))) c5 c6 c7 c8 c9 c10 c11 c12 c13, dl1⟩ = .ok .nx ⟨E14 sc c2 (some (.sh (frD ns))) (some (.sh (.list own))) (some (.ow (.list [t1, t2, t3]))) c6 c7 c8 c9 c10 c11 c12 c13, dl5⟩ := by
    have hk : (1 : Int) + (k : Int) = (k : Int) + 1 := by omega
    simp [e3, e4, e5, hk, e6]
  have s4 : evS (CC 30) x_law_3 ⟨E14 sc c2 (some (.sh (frD ns))) (some (.sh (.list own))) (some (.ow (.list [t1, t2, t3]))) c6 c7 c8 c9 c10 c11 c12 c13, dl5⟩ = .ok .nx ⟨E14 sc c2 (some (.sh (frD ns))) (some (.sh (.list own))) (some (.sh (.list [t1, t2, t3]))) c6' c7' c8' c9' c10 c11 c12 c13, dl6⟩ := by
    unfold x_law_3
    rw [S_for]
    have hi : evI (CC 30) (.seq (.v 5)) ⟨E14 sc c2 (some (.sh (frD ns))) (some (.sh (.list own))) (some (.ow (.list [t1, t2, t3]))) c6 c7 c8 c9 c10 c11 c12 c13, dl5⟩ = .ok [t1, t2, t3] ⟨E14 sc c2 (some (.sh (frD ns))) (some (.sh (.list own))) (some (.sh (.list [t1, t2, t3]))) c6 c7 c8 c9 c10 c11 c12 c13, dl5⟩ := by
      simp [seqItems]
    rw [hi, bind_ok]
    exact ef
  have s5 : evS (CC 30) (.asg 10 (.ix (.lst (.cons (.tup (.cons (.lit (.str "value")) (.cons (.lit (.int 10)) .nil))) (.cons (.lit (.none)) (.cons (.lst (.cons (.lit (.str "value")) (.cons (.lit (.int 1)) .nil))) (.cons (.tup (.cons (.lit (.str "cell")) (.cons (.bi .len (.v 3)) .nil))) .nil))))) (.call "_law_take" (.cons (.v 1) (.cons (.lit (.int 4)) .nil))))) ⟨E14 sc c2 (some (.sh (frD ns))) (some (.sh (.list own))) (some (.sh (.list [t1, t2, t3]))) c6' c7' c8' c9' c10 c11 c12 c13, dl6⟩ = .ok .nx ⟨E14 sc c2 (some (.sh (frD ns))) (some (.sh (.list own))) (some (.sh (.list [t1, t2, t3]))) c6' c7' c8' c9' (some (.sh bad)) c11 c12 c13, dl7⟩ := by
    simp [e7, g7]
  have s6 : evS (CC 30) (.asg 11 (.ix farE (.call "_law_take" (.cons (.v 1) (.cons (.lit (.int 7)) .nil))))) ⟨E14 sc c2 (some (.sh (frD ns))) (some (.sh (.list own))) (some (.sh (.list [t1, t2, t3]))) c6' c7' c8' c9' (some (.sh bad)) c11 c12 c13, dl7⟩ = .ok .nx ⟨E14 sc c2 (some (.sh (frD ns))) (some (.sh (.list own))) (some (.sh (.list [t1, t2, t3]))) c6' c7' c8' c9' (some (.sh bad)) (some (.sh far)) c12 c13, dl8⟩ := by
    have fe1 := (fe dl7).1
    have o : ∀ (r : Out RV) (s : Sto), opd farE r s = r.bind fun rv s' => .ok (.dat rv.dat) s' := fun r s => rfl
    rw [S_asg, E_ix, fe1, o, bind_ok, bind_ok]
    simp [e8, g8]
  have s7 : evS (CC 30) (.asg 12 (.ix (.lst (.cons (.lit (.none)) (.cons (.tup .nil) (.cons (.tup (.cons (.lit (.int 1)) .nil)) (.cons (.tup (.cons (.lit (.int 4)) (.cons (.lit (.int 3)) .nil))) (.cons (.lst (.cons (.lit (.int 2)) .nil)) (.cons (.tup (.cons (.lit (.bool false)) (.cons (.lit (.int 2)) .nil))) .nil))))))) (.call "_law_take" (.cons (.v 1) (.cons (.lit (.int 6)) .nil))))) ⟨E14 sc c2 (some (.sh (frD ns))) (some (.sh (.list own))) (some (.sh (.list [t1, t2, t3]))) c6' c7' c8' c9' (some (.sh bad)) (some (.sh far)) c12 c13, dl8⟩ = .ok .nx ⟨E14 sc c2 (some (.sh (frD ns))) (some (.sh (.list own))) (some (.sh (.list [t1, t2, t3]))) c6' c7' c8' c9' (some (.sh bad)) (some (.sh far)) (some (.sh wr)) c13, dl9⟩ := by
    simp [e9, g9]
  show evSs (CC 30) (.cons _ (.cons _ (.cons _ (.cons x_law_3 (.cons _ (.cons (.asg 11 (.ix farE _)) (.cons _ (.cons _ (.cons _ .nil))))))))) _ = _
  rw [Ss_cons, s1, bind_ok, n_nx, Ss_cons, s2, bind_ok, n_nx, Ss_cons, s3, bind_ok, n_nx, Ss_cons, s4, bind_ok, n_nx, Ss_cons, s5, bind_ok, n_nx, Ss_cons, s6, bind_ok, n_nx, Ss_cons, s7, bind_ok, n_nx]
  simp [w1, w2, w3, w4, hl, words_ok]
theorem plain : ∀ ns : List Int, ns.length ≤ 63 → ∃ s', evSs (CC 30) c_law ⟨(sto0 Nlaw ns).env.set 1 (some .deal), some ⟨cells ns, rest0⟩⟩ = .ok (.ret (.sh (.bool true))) s' := by
  intro ns hns
  show ∃ s', evSs (CC 30) c_law ⟨E14 ns none none none none none none none none none none none none, some ⟨cells ns, rest0⟩⟩ = _
  have D0 : Dk (some ⟨cells ns, rest0⟩) 0 := ⟨_, _, _, 0, rfl, by omega, by omega⟩
  generalize (some (⟨cells ns, rest0⟩ : Dl)) = dl at D0
  have mn : minG (.int ns.length) (.int 9) = some (.sh (.int (min (ns.length : Int) 9))) := by
    show some (RV.sh (PyData.int (if (9 : Int) < ns.length then 9 else (ns.length : Int)))) = _
    congr 3
    omega
  have hit : evI (CC 30) (.rg1 (.bin .add (.lit (.int 4)) (.min2 (.lens 0) (.lit (.int 9))))) ⟨E14 ns none none none none none none none none none none none none, dl⟩ = .ok (rangeD 0 (4 + min (ns.length : Int) 9)) ⟨E14 ns none none none none none none none none none none none none, dl⟩ := by
    have he : evE (CC 30) (.bin .add (.lit (.int 4)) (.min2 (.lens 0) (.lit (.int 9)))) ⟨E14 ns none none none none none none none none none none none none, dl⟩ = .ok (.sh (.int (4 + min (ns.length : Int) 9))) ⟨E14 ns none none none none none none none none none none none none, dl⟩ := by
      simp [mn]
    obtain ⟨m, hm⟩ : ∃ m : Nat, 4 + min (ns.length : Int) 9 = (m : Int) := ⟨(4 + min (ns.length : Int) 9).toNat, by omega⟩
    rw [hm] at he ⊢
    rw [I_rg1, he, bind_ok]
    show outO (rngItems (.int 0) (.int (m : Int))) _ = _
    rw [rg_ok (by omega), outO_so]
  have hl : (rangeD 0 (4 + min (ns.length : Int) 9)).length ≤ 13 := by
    simp [rangeD]
    omega
  obtain ⟨s', ef, c2, c3, c4, c5, c6, c7, c8, c9, c10, c11, c12, c13, dl2, rfl, _⟩ := for_inv (f := forBody (.nm 2) (evSs (CC 30) b4)) (items := rangeD 0 (4 + min (ns.length : Int) 9)) (s := ⟨E14 ns none none none none none none none none none none none none, dl⟩)
    (fun i s => ∃ c2 c3 c4 c5 c6 c7 c8 c9 c10 c11 c12 c13 dl, s = ⟨E14 ns c2 c3 c4 c5 c6 c7 c8 c9 c10 c11 c12 c13, dl⟩ ∧ Dk dl (400 * i)) ⟨_, _, _, _, _, _, _, _, _, _, _, _, _, rfl, by simpa using D0⟩ fun i x s hx ⟨c2, c3, c4, c5, c6, c7, c8, c9, c10, c11, c12, c13, dl, hs, Di⟩ => by
      subst hs
      have hi : i < 13 := by
        have := (List.getElem?_eq_some_iff.mp hx).1
        omega
      obtain ⟨c3', c4', c5', c6', c7', c8', c9', c10', c11', c12', c13', dl', e, D'⟩ := turn_ev ns (some (.sh x)) c3 c4 c5 c6 c7 c8 c9 c10 c11 c12 c13 Di (by omega)
      exact ⟨_, e, _, _, _, _, _, _, _, _, _, _, _, _, dl', rfl, D'.mono (by omega)⟩
  refine ⟨⟨E14 ns c2 c3 c4 c5 c6 c7 c8 c9 c10 c11 c12 c13, dl2⟩, ?_⟩
  have hf : evS (CC 30) x_law_4 ⟨E14 ns none none none none none none none none none none none none, dl⟩ = .ok .nx ⟨E14 ns c2 c3 c4 c5 c6 c7 c8 c9 c10 c11 c12 c13, dl2⟩ := by
    unfold x_law_4
    rw [S_for, hit, bind_ok]
    exact ef
  unfold c_law
  rw [Ss_cons, hf, bind_ok, n_nx]
  simp
end K05
namespace K05
open PySem PySem.Spec PyProof.Rows L2 WV
theorem s_deal : FnScope Ndeal ["script"] (defScope (top 29)) := ⟨by kernel_rfl, by kernel_rfl, by kernel_rfl, by decide +kernel, by kernel_rfl, by decide +kernel, by decide +kernel⟩
theorem s_law : FnScope Nlaw ["script"] (defScope (top 43)) := ⟨by kernel_rfl, by kernel_rfl, by kernel_rfl, by decide +kernel, by kernel_rfl, by decide +kernel, by decide +kernel⟩
theorem facts {P : Program} {w : World} {K : PySem.W.Frag} {h : Heap} {mg : Str → Option Value} {f : Addr} (X : K.In h) (G : h.Ns mainGlobals mg) (hfa : mg ("law" : Str) = some (.ref f)) (c : He.SaysD (faOf T ns) fn K) (hx : exOf T K = true ∧ tbsIn (tbOf T) K = tbsOf (tbOf T) w) :
    ∃ fd : FuncData, (∀ (s : Shared) (v : Value), BindsTo s fd ⟨[v], []⟩ [("script", v)]) ∧ ∀ base : Heap, K.In base → base.Ns mainGlobals mg → FnOk P w K mg base CX0 (30 + 3) f fd ["script"] (spLaw ⟨K, w, P⟩) := by
  obtain ⟨fdD, FD⟩ := c.defs (d := dd_deal) (List.mem_cons_self ..)
  obtain ⟨fd, F⟩ := c.defs (d := dd_law) (List.mem_cons_of_mem _ (List.mem_cons_self ..))
  have gD := He.glo_ok X G (c.facts (f := .glo "_law_deal") (by unfold faOf; exact List.mem_append_left _ (List.mem_map_of_mem (List.mem_cons_self ..))))
  have gL := He.glo_ok X G (c.facts (f := .glo "law") (by unfold faOf; exact List.mem_append_left _ (List.mem_map_of_mem (List.mem_cons_of_mem _ (List.mem_cons_self ..)))))
  have e := hfa.symm.trans gL
  cases e
  have b := FunD.bindsA (ps := ["script"]) F fun _ _ _ _ _ _ us hl => match us, hl with | [_], _ => rfl
  refine ⟨fd, fun s v => b s [v] rfl, fun base _ _ => ?_⟩
  have pf : PF P w K mg base T ds tk0 60 := pf_of X G c hx h_in h_bnd h_chk h_sco h_fns h_kws
  have tab := tab_ok pf 30
  have bD : Binds K fdD ["script"] [] := FunD.bindsN (ps := ["script"]) FD fun _ _ _ _ _ _ us hl => match us, hl with | [_], _ => rfl
  have eD : FunD K "_law_deal" "_law_deal" (defArgs (top 29)) [.Return (some (.List (dealEs (defBody (top 29))) (dealP (defBody (top 29))).1)) (dealP (defBody (top 29))).2] (defScope (top 29)) [] [] (He.fAd K ("_law_deal", none)) fdD := by
    have q : defBody (top 29) = [.Return (some (.List (dealEs (defBody (top 29))) (dealP (defBody (top 29))).1)) (dealP (defBody (top 29))).2] := by kernel_rfl
    rw [← q]
    exact FD
  have okD := deal_ok (m := 60) tab eD s_deal (by decide) (by decide) (by kernel_rfl : (cmp 60).es ⟨T, Ndeal, defScope (top 29), defScope (top 29), true, "", ""⟩ (dealEs (defBody (top 29))) = some (xDeal rest0)) (cl := cells) (rest := rest0) (fun ns => dealEv (CC 30) rest0 ns)
  have eL : FunD K "law" "law" (defArgs (top 43)) (lawB "deal" "_law_deal" (defBody (top 43))) (defScope (top 43)) [] [] (He.fAd K ("law", none)) fd := by
    have q : defBody (top 43) = lawB "deal" "_law_deal" (defBody (top 43)) := by kernel_rfl
    rw [← q]
    exact F
  have tab2 : TabF P w ⟨K, w, P⟩ mg base (30 + 2) T (CC 30) := tab_up tab
  exact law_ok (m := 60) tab2 okD gD FD.kp bD eL s_law (by decide) (by decide : 1 ≤ 1) (by kernel_rfl) (by kernel_rfl) (by kernel_rfl) (by kernel_rfl : (cmpS (cmp 60) 60).ss ⟨T, Nlaw, defScope (top 43), defScope (top 43), true, "", ""⟩ (defBody (top 43)).tail = some c_law) plain
abbrev R : PySem.W.OpenRow := PySem.W.OpenLaw.row PySem.Challenge.rw_wovensworn_k05_expressions_and_their_val
abbrev hk : PySem.W.Hook := hookW 4 (faOf T ns) fn (exOf T) (tbOf T)
def ob (s : PySem.W.SharedT) : AlW := obsW 4 (faOf T ns) fn (exOf T) (tbOf T) (HandSHeadRun.getT s)
theorem ob_eq (s : PySem.W.SharedT) : ob s = hk.obs s.abs := obsW_eq (HandSHeadRun.getT_eq s)
theorem run (w : World) : HandSHeadRun.RunEq R (PySem.W.view R.prog [43]) hk ob 4000 loose w := by
  intro os
  kernel_rfl
end K05
open PySem PySem.W PySem.Calls PyProof.Rows
theorem PySem.Challenge.cw_wovensworn_k05_expressions_and_their_val_holds : PySem.Challenge.rw_wovensworn_k05_expressions_and_their_val.Holds := by
  w_on; o_law
  refine HandSHeadRun.head_any (r := OpenLaw.row PySem.Challenge.rw_wovensworn_k05_expressions_and_their_val) (q := view (OpenLaw.row PySem.Challenge.rw_wovensworn_k05_expressions_and_their_val).prog [43]) (H := K05.hk) (ob := K05.ob) (M := 4000) (loose := K05.loose) (d := HandSHeadRun.topDef (OpenLaw.row PySem.Challenge.rw_wovensworn_k05_expressions_and_their_val).prog 43) (kwd := []) K05.ob_eq
    (by kernel_rfl) (fun s => by kernel_rfl) K05.run (by kernel_rfl) (by kernel_rfl) (by kernel_rfl) (by rfl) (by first | assumption | decide +kernel) (by decide +kernel) ⟨rfl, rfl, rfl, rfl, rfl, by decide +kernel⟩ ?hw ?hc
  case hw => w_witness2
  case hc =>
    refine L2.walk_ofE (l := PySem.Challenge.rw_wovensworn_k05_expressions_and_their_val) (n := 63) (k := 30 + 3) (x := "script") (CX := L2.CX0) rfl (by decide) (by kernel_rfl) ⟨rfl, by decide, by decide⟩ ?F (fun _ _ _ _ z => z)
    intro w mg fa h Y G hmg0
    obtain ⟨K, KX, c, hx⟩ := Y
    have hmg : mg ("law" : PySem.Str) = some (.ref fa) := by
      have e : (HandSHeadRun.topDef (OpenLaw.row PySem.Challenge.rw_wovensworn_k05_expressions_and_their_val).prog 43).name = ("law" : PySem.Str) := by kernel_rfl
      rw [← e]
      exact hmg0
    obtain ⟨fd, hb, hF⟩ := K05.facts (P := (PySem.Challenge.rw_wovensworn_k05_expressions_and_their_val).prog) (w := w) KX G hmg c hx
    exact ⟨K, fd, WV.spLaw ⟨K, w, _⟩, KX, hb, fun H a ns hl _ hS => ⟨a, ns, rfl, hl, hS, fun _ => rfl⟩, hF⟩
