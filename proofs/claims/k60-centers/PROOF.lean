import PyProof.Rows.All
import Wide.All
import OpenK.AllK
import Wide.FinOn
import HandS.ForMost
import HandS.Walk
import HandS.NoneIn
import KE.GoesEnum
import HandS.Zip
import HandS.Defaults
import HandS.TupAny
import HandS.IsInst
import HandS.Deep
import KE.KTupSum
import HandS.Style
import HandS.SortInts
import HandS.TupLen
import HandS.WordsDict
import KE.DataEq
import KE.DataCmp
import HandS.TupMul
import HandS.Conv
import HandS.More
import PyProof.TupleOfSeq
import HandS.SortOrd
import KE.SortData
import PyProof.ReprRoads
import PyProof.ReprLen
import PyProof.FitsInt
import KE.KDictPairs
import KE.KDictDisplayH
import PyProof.DictTable
import HandS.Ends
import HandS.HeadEnd
import HandS.Head0
import HandS.Head1
import HandS.Head2
import HandS.HeadHook1
import HandS.HeadHook2
import HandS.Flt
import PyProof.Rows.SetFrom
import PyProof.SetRoads
import HandS.Set
import PyProof.ListMulRoad
import HandS.Iter
import PySem.Challenge.RW_wordshapes_k60_whole_centers
set_option Elab.async false
set_option linter.all false
set_option maxRecDepth 100000
/-! J: pure readings over the hand layer. Values as trees, the representation, the frame's invariant. -/
namespace J
open PySem L2

theorem falseNe : ¬ (false = true) := Bool.false_ne_true
inductive PV where
  | non
  | bl (b : Bool)
  | int (i : Int)
  | str (x : Str)
  | tup (xs : List PV)
  | lst (xs : List PV)
  | dic (t : Bool) (ks vs : List PV)
  | ins (c : String) (fs : List PV)
  | obj (n : Nat)
  | scr (ns : List Int)

mutual
def PV.eqb : PV → PV → Bool
  | .non, .non => true
  | .bl a, .bl b => a == b
  | .int a, .int b => decide (a = b)
  | .str a, .str b => decide (a = b)
  | .tup a, .tup b => eqbL a b
  | .lst a, .lst b => eqbL a b
  | .dic t a b, .dic u c d => (t == u) && (eqbL a c && eqbL b d)
  | .ins a b, .ins c d => decide (a = c) && eqbL b d
  | .obj a, .obj b => decide (a = b)
  | .scr a, .scr b => decide (a = b)
  | _, _ => false
def eqbL : List PV → List PV → Bool
  | [], [] => true
  | a :: r, b :: s => PV.eqb a b && eqbL r s
  | _, _ => false
end
mutual
theorem PV.eqb_iff : ∀ (a b : PV), PV.eqb a b = true ↔ a = b
  | .non, b => by cases b <;> simp [PV.eqb]
  | .bl a, b => by cases b <;> simp [PV.eqb]
  | .int a, b => by cases b <;> simp [PV.eqb]
  | .str a, b => by cases b <;> simp [PV.eqb]
  | .tup a, b => by cases b <;> simp [PV.eqb, eqbL_iff a]
  | .lst a, b => by cases b <;> simp [PV.eqb, eqbL_iff a]
  | .dic t a c, b => by cases b <;> simp [PV.eqb, eqbL_iff a, eqbL_iff c]
  | .ins a c, b => by cases b <;> simp [PV.eqb, eqbL_iff c]
  | .obj a, b => by cases b <;> simp [PV.eqb]
  | .scr a, b => by cases b <;> simp [PV.eqb]
theorem eqbL_iff : ∀ (a b : List PV), eqbL a b = true ↔ a = b
  | [], b => by cases b <;> simp [eqbL]
  | x :: r, b => by cases b <;> simp [eqbL, PV.eqb_iff x, eqbL_iff r]
end
instance : DecidableEq PV := fun a b =>
  if h : PV.eqb a b = true then .isTrue ((PV.eqb_iff a b).mp h) else .isFalse fun e => h ((PV.eqb_iff a b).mpr e)

/-- a local name: nothing is known, a value, a list or dict that only this name holds -/
inductive Slot where
  | un
  | val (v : PV)
  | own (v : PV)
abbrev Env := List Slot
/-- shared lists, by their numbers -/
abbrev Sto := List (List PV)
abbrev Ct := String → Option (Addr × List Str)

/-- seen: neither a shared list nor one that a name owns -/
def Vw (H : Hp) (A M : List Addr) (a : Addr) (u : HO) : Prop := H a = some u ∧ a ∉ A ∧ a ∉ M
def VwR (H : Hp) (A M : List Addr) (a : Addr) (u : HO) : Prop := Rd H a u ∧ a ∉ A ∧ a ∉ M
/-- locked: a dict that no name owns -/
def VwF (H : Hp) (A M : List Addr) (a : Addr) (u : HO) : Prop := (∃ o, H a = some (.frz o u)) ∧ a ∉ A ∧ a ∉ M
abbrev H00 : Hp := fun _ => none

def keyV : Key → PV
  | .inl i => .int i
  | .inr x => .str x

section
variable (K : PySem.W.Frag) (ct : Ct)
mutual
def Rep (H : Hp) (A M : List Addr) : PV → V → Prop
  | .non, x => x = .non
  | .bl b, x => x = .bl b
  | .int i, x => x = .int i
  | .str z, x => x = .str z
  | .tup xs, x => ∃ a vs, x = .ref a ∧ Vw H A M a (.tup vs) ∧ RepL H A M xs vs
  | .lst xs, x => ∃ a vs, x = .ref a ∧ Vw H A M a (.lst vs) ∧ RepL H A M xs vs
  | .dic t ks xs, x => ∃ a, x = .ref a ∧ ((t = false ∧ ∃ ws : List (Key × V), VwF H A M a (.dK ws) ∧ ks = ws.map (fun w => keyV w.1) ∧ RepL H A M xs (ws.map (·.2))) ∨
      t = true ∧ ∃ ws : List (List Key × V), VwF H A M a (.dT ws) ∧ ks = ws.map (fun w => .tup (w.1.map keyV)) ∧ RepL H A M xs (ws.map (·.2)))
  | .ins c fs, x => ∃ a C dx ns vs, x = .ref a ∧ ct c = some (C, ns) ∧ Vw H A M a (.ins C dx (ns.zip vs)) ∧ vs.length = ns.length ∧ RepL H A M fs vs
  | .obj n, x => ∃ a, x = .ref a ∧ A[n]? = some a
  | .scr ns, x => ∃ a, x = .ref a ∧ (VwR H A M a (.lst (ns.map V.int)) ∨ SqL K H00 a (ns.map V.int))
def RepL (H : Hp) (A M : List Addr) : List PV → List V → Prop
  | [], vs => vs = []
  | p :: ps, vs => ∃ v r, vs = v :: r ∧ Rep H A M p v ∧ RepL H A M ps r
end

/-- what stands at p, itself hidden -/
def Cont (H : Hp) (A M : List Addr) (p : Addr) : PV → Prop
  | .lst xs => ∃ vs, H p = some (.lst vs) ∧ RepL K ct H A M xs vs
  | .dic t ks xs => (t = false ∧ ∃ ws : List (Key × V), H p = some (.dK ws) ∧ ks = ws.map (fun w => keyV w.1) ∧ RepL K ct H A M xs (ws.map (·.2))) ∨
      t = true ∧ ∃ ws : List (List Key × V), H p = some (.dT ws) ∧ ks = ws.map (fun w => .tup (w.1.map keyV)) ∧ RepL K ct H A M xs (ws.map (·.2))
  | _ => False

structure StoOk (H : Hp) (A M : List Addr) (S : Sto) : Prop where
  len : S.length = A.length
  at' : ∀ (n : Nat) (a : Addr) (xs : List PV), A[n]? = some a → S[n]? = some xs → ∃ vs, H a = some (.lst vs) ∧ RepL K ct H A M xs vs
structure Bs (A M : List Addr) (H : Hp) (S : Sto) : Prop where
  sto : StoOk K ct H A M S
  nodup : A.Nodup
  inM : ∀ a ∈ M, H a ≠ none
  disj : ∀ a ∈ M, a ∉ A
  noT : ∀ a ∈ M, ∀ vs, H a ≠ some (.tup vs)
end

/-- later: what is seen stays seen -/
structure Lat (A M : List Addr) (H : Hp) (A' M' : List Addr) (H' : Hp) : Prop where
  pre : A <+: A'
  vis : ∀ a o, H a = some o → a ∉ A → a ∉ M → H' a = some o ∧ a ∉ A' ∧ a ∉ M'
theorem Lat.refl (A M : List Addr) (H : Hp) : Lat A M H A M H := ⟨List.prefix_refl A, fun _ _ h h1 h2 => ⟨h, h1, h2⟩⟩
theorem Lat.trans {A M A1 M1 A2 M2 : List Addr} {H H1 H2 : Hp} (x : Lat A M H A1 M1 H1) (y : Lat A1 M1 H1 A2 M2 H2) : Lat A M H A2 M2 H2 :=
  ⟨x.pre.trans y.pre, fun a o h h1 h2 => let ⟨p, q, r⟩ := x.vis a o h h1 h2; y.vis a o p q r⟩
/-- behind an expression or a call: all but the shared lists is as it was -/
structure Post (A : List Addr) (H : Hp) (A' : List Addr) (H' : Hp) : Prop where
  pre : A <+: A'
  ext : ∀ a o, H a = some o → a ∉ A → H' a = some o
  new : ∀ a ∈ A', a ∈ A ∨ H a = none
  nodup : A'.Nodup
theorem Post.refl {A : List Addr} (H : Hp) (n : A.Nodup) : Post A H A H := ⟨List.prefix_refl A, fun _ _ h _ => h, fun _ h => .inl h, n⟩
theorem Post.out {A A' : List Addr} {H H' : Hp} (x : Post A H A' H') {a : Addr} {o : HO} (h : H a = some o) (n : a ∉ A) : a ∉ A' := fun z => by
  rcases x.new a z with q | q
  · exact n q
  · rw [q] at h; cases h
theorem Post.trans {A A1 A2 : List Addr} {H H1 H2 : Hp} (x : Post A H A1 H1) (y : Post A1 H1 A2 H2) : Post A H A2 H2 :=
  ⟨x.pre.trans y.pre, fun a o h n => y.ext a o (x.ext a o h n) (x.out h n), fun a h => by
    rcases y.new a h with q | q
    · exact x.new a q
    · by_cases ha : a ∈ A
      · exact .inl ha
      · refine .inr ?_
        cases e : H a with
        | none => rfl
        | some o => exact absurd ((x.ext a o e ha).symm.trans q) (by simp), y.nodup⟩
theorem Post.lat {A A' : List Addr} {H H' : Hp} (x : Post A H A' H') (M : List Addr) : Lat A M H A' M H' :=
  ⟨x.pre, fun a o h n m => ⟨x.ext a o h n, x.out h n, m⟩⟩
theorem Post.grow {A : List Addr} {H H' : Hp} (n : A.Nodup) (g : Same H H') : Post A H A H' := ⟨List.prefix_refl A, fun a o h _ => g a o h, fun _ h => .inl h, n⟩
theorem same_new {H : Hp} {p : Addr} {o : HO} (h : H p = none) : Same H (upd H p o) := fun b x e => by
  rw [upd_ne (ne_of_none e h)]; exact e

section
variable {K : PySem.W.Frag} {ct : Ct} {A M A' M' : List Addr} {H H' : Hp}
theorem VwR.lat (l : Lat A M H A' M' H') {a : Addr} {u : HO} (v : VwR H A M a u) : VwR H' A' M' a u := by
  obtain ⟨r, n, m⟩ := v
  rcases r with r | ⟨o, r⟩
  · obtain ⟨h1, h2, h3⟩ := l.vis a _ r n m
    exact ⟨.inl h1, h2, h3⟩
  · obtain ⟨h1, h2, h3⟩ := l.vis a _ r n m
    exact ⟨.inr ⟨o, h1⟩, h2, h3⟩
theorem Vw.lat (l : Lat A M H A' M' H') {a : Addr} {u : HO} (v : Vw H A M a u) : Vw H' A' M' a u := l.vis a u v.1 v.2.1 v.2.2
theorem VwF.lat (l : Lat A M H A' M' H') {a : Addr} {u : HO} (v : VwF H A M a u) : VwF H' A' M' a u := by
  obtain ⟨⟨o, r⟩, n, m⟩ := v
  obtain ⟨h1, h2, h3⟩ := l.vis a _ r n m
  exact ⟨⟨o, h1⟩, h2, h3⟩
theorem VwF.rd {a : Addr} {u : HO} (v : VwF H A M a u) : Rd H a u := .inr v.1
theorem Vw.r {a : Addr} {u : HO} (v : Vw H A M a u) : VwR H A M a u := ⟨.inl v.1, v.2⟩
mutual
theorem Rep.lat (l : Lat A M H A' M' H') : ∀ (p : PV) (x : V), Rep K ct H A M p x → Rep K ct H' A' M' p x
  | .non, x, e => by simpa only [Rep] using e
  | .bl b, x, e => by simpa only [Rep] using e
  | .int b, x, e => by simpa only [Rep] using e
  | .str b, x, e => by simpa only [Rep] using e
  | .tup xs, x, e => by
    simp only [Rep] at e ⊢
    obtain ⟨a, vs, e1, e2, e3⟩ := e
    exact ⟨a, vs, e1, e2.lat l, RepL.lat l xs vs e3⟩
  | .lst xs, x, e => by
    simp only [Rep] at e ⊢
    obtain ⟨a, vs, e1, e2, e3⟩ := e
    exact ⟨a, vs, e1, e2.lat l, RepL.lat l xs vs e3⟩
  | .dic t ks xs, x, e => by
    simp only [Rep] at e ⊢
    obtain ⟨a, e1, e2⟩ := e
    refine ⟨a, e1, ?_⟩
    rcases e2 with ⟨ht, ws, h1, h2, h3⟩ | ⟨ht, ws, h1, h2, h3⟩
    · exact .inl ⟨ht, ws, h1.lat l, h2, RepL.lat l xs _ h3⟩
    · exact .inr ⟨ht, ws, h1.lat l, h2, RepL.lat l xs _ h3⟩
  | .ins c fs, x, e => by
    simp only [Rep] at e ⊢
    obtain ⟨a, C, dx, ns, vs, e1, e2, e3, e4, e5⟩ := e
    exact ⟨a, C, dx, ns, vs, e1, e2, e3.lat l, e4, RepL.lat l fs vs e5⟩
  | .obj n, x, e => by
    simp only [Rep] at e ⊢
    obtain ⟨a, e1, e2⟩ := e
    exact ⟨a, e1, by
      obtain ⟨t, rfl⟩ := l.pre
      rw [List.getElem?_append_left (List.getElem?_eq_some_iff.mp e2).1]; exact e2⟩
  | .scr ns, x, e => by
    simp only [Rep] at e ⊢
    obtain ⟨a, e1, e2⟩ := e
    exact ⟨a, e1, e2.imp (VwR.lat l) id⟩
theorem RepL.lat (l : Lat A M H A' M' H') : ∀ (p : List PV) (x : List V), RepL K ct H A M p x → RepL K ct H' A' M' p x
  | [], x, e => by simpa only [RepL] using e
  | p :: ps, x, e => by
    simp only [RepL] at e ⊢
    obtain ⟨v, r, e1, e2, e3⟩ := e
    exact ⟨v, r, e1, Rep.lat l p v e2, RepL.lat l ps r e3⟩
end
theorem RepL.nil_iff {vs : List V} : RepL K ct H A M [] vs ↔ vs = [] := by simp only [RepL]
theorem RepL.cons {p : PV} {ps : List PV} {v : V} {vs : List V} (h : Rep K ct H A M p v) (t : RepL K ct H A M ps vs) : RepL K ct H A M (p :: ps) (v :: vs) := by
  simp only [RepL]; exact ⟨v, vs, rfl, h, t⟩
theorem RepL.inv {p : PV} {ps : List PV} {vs : List V} (h : RepL K ct H A M (p :: ps) vs) : ∃ v r, vs = v :: r ∧ Rep K ct H A M p v ∧ RepL K ct H A M ps r := by
  simpa only [RepL] using h
theorem RepL.nil : RepL K ct H A M [] [] := by simp only [RepL]
theorem RepL.length : ∀ {ps : List PV} {vs : List V}, RepL K ct H A M ps vs → vs.length = ps.length
  | [], vs, h => by rw [RepL.nil_iff.mp h]; rfl
  | p :: ps, vs, h => by
    obtain ⟨v, r, rfl, _, t⟩ := h.inv
    rw [List.length_cons, List.length_cons, t.length]
theorem RepL.append : ∀ {ps qs : List PV} {vs ws : List V}, RepL K ct H A M ps vs → RepL K ct H A M qs ws → RepL K ct H A M (ps ++ qs) (vs ++ ws)
  | [], qs, vs, ws, h, t => by rw [RepL.nil_iff.mp h]; exact t
  | p :: ps, qs, vs, ws, h, t => by
    obtain ⟨v, r, rfl, h1, h2⟩ := h.inv
    exact .cons h1 (h2.append t)
theorem RepL.get : ∀ {ps : List PV} {vs : List V} {i : Nat} {p : PV}, RepL K ct H A M ps vs → ps[i]? = some p → ∃ v, vs[i]? = some v ∧ Rep K ct H A M p v
  | [], vs, i, p, h, e => by simp at e
  | q :: ps, vs, 0, p, h, e => by
    obtain ⟨v, r, rfl, h1, h2⟩ := h.inv
    cases e
    exact ⟨v, rfl, h1⟩
  | q :: ps, vs, i + 1, p, h, e => by
    obtain ⟨v, r, rfl, h1, h2⟩ := h.inv
    exact h2.get (i := i) e
theorem RepL.getV : ∀ {ps : List PV} {vs : List V} {i : Nat} {v : V}, RepL K ct H A M ps vs → vs[i]? = some v → ∃ p, ps[i]? = some p ∧ Rep K ct H A M p v := fun {ps vs i v} h e => by
  have hl := h.length
  have hi : i < vs.length := (List.getElem?_eq_some_iff.mp e).1
  obtain ⟨w, e2, r⟩ := h.get (i := i) (List.getElem?_eq_getElem (by omega))
  rw [e] at e2; cases e2
  exact ⟨_, List.getElem?_eq_getElem (by omega), r⟩
theorem RepL.take : ∀ {ps : List PV} {vs : List V} (n : Nat), RepL K ct H A M ps vs → RepL K ct H A M (ps.take n) (vs.take n)
  | _, _, 0, h => by simp only [List.take_zero]; exact .nil
  | [], vs, n + 1, h => by rw [RepL.nil_iff.mp h]; exact .nil
  | p :: ps, vs, n + 1, h => by
    obtain ⟨v, r, rfl, h1, h2⟩ := h.inv
    exact .cons h1 (h2.take n)
theorem RepL.drop : ∀ {ps : List PV} {vs : List V} (n : Nat), RepL K ct H A M ps vs → RepL K ct H A M (ps.drop n) (vs.drop n)
  | _, _, 0, h => by simpa only [List.drop_zero] using h
  | [], vs, n + 1, h => by rw [RepL.nil_iff.mp h]; exact .nil
  | p :: ps, vs, n + 1, h => by
    obtain ⟨v, r, rfl, h1, h2⟩ := h.inv
    exact h2.drop n
theorem RepL.set : ∀ {ps : List PV} {vs : List V} (n : Nat) {p : PV} {v : V}, RepL K ct H A M ps vs → Rep K ct H A M p v → RepL K ct H A M (ps.set n p) (vs.set n v)
  | [], vs, n, p, v, h, _ => by rw [RepL.nil_iff.mp h]; exact .nil
  | q :: ps, vs, 0, p, v, h, e => by
    obtain ⟨w, r, rfl, h1, h2⟩ := h.inv
    exact .cons e h2
  | q :: ps, vs, n + 1, p, v, h, e => by
    obtain ⟨w, r, rfl, h1, h2⟩ := h.inv
    exact .cons h1 (h2.set n e)
theorem RepL.reverse : ∀ {ps : List PV} {vs : List V}, RepL K ct H A M ps vs → RepL K ct H A M ps.reverse vs.reverse
  | [], vs, h => by rw [RepL.nil_iff.mp h]; exact .nil
  | p :: ps, vs, h => by
    obtain ⟨v, r, rfl, h1, h2⟩ := h.inv
    simp only [List.reverse_cons]
    exact h2.reverse.append (.cons h1 .nil)
theorem RepL.one {p : PV} {vs : List V} (h : RepL K ct H A M [p] vs) : ∃ v, vs = [v] ∧ Rep K ct H A M p v := by
  obtain ⟨v, r, rfl, h1, h2⟩ := h.inv
  rw [RepL.nil_iff.mp h2]; exact ⟨v, rfl, h1⟩
theorem RepL.two {p q : PV} {vs : List V} (h : RepL K ct H A M [p, q] vs) : ∃ v w, vs = [v, w] ∧ Rep K ct H A M p v ∧ Rep K ct H A M q w := by
  obtain ⟨v, r, rfl, h1, h2⟩ := h.inv
  obtain ⟨w, rfl, h3⟩ := h2.one
  exact ⟨v, w, rfl, h1, h3⟩
theorem RepL.three {p q u : PV} {vs : List V} (h : RepL K ct H A M [p, q, u] vs) : ∃ v w z, vs = [v, w, z] ∧ Rep K ct H A M p v ∧ Rep K ct H A M q w ∧ Rep K ct H A M u z := by
  obtain ⟨v, r, rfl, h1, h2⟩ := h.inv
  obtain ⟨w, z, rfl, h3, h4⟩ := h2.two
  exact ⟨v, w, z, rfl, h1, h3, h4⟩
/-- ints -/
theorem Rep.int_iff {i : Int} {x : V} : Rep K ct H A M (.int i) x ↔ x = .int i := by simp only [Rep]
theorem Rep.bl_iff {i : Bool} {x : V} : Rep K ct H A M (.bl i) x ↔ x = .bl i := by simp only [Rep]
theorem Rep.str_iff {i : Str} {x : V} : Rep K ct H A M (.str i) x ↔ x = .str i := by simp only [Rep]
theorem Rep.non_iff {x : V} : Rep K ct H A M .non x ↔ x = .non := by simp only [Rep]
theorem RepL.ints : ∀ {ns : List Int} {vs : List V}, RepL K ct H A M (ns.map PV.int) vs → vs = ns.map V.int
  | [], vs, h => by rw [RepL.nil_iff.mp h]; rfl
  | n :: ns, vs, h => by
    obtain ⟨v, r, rfl, h1, h2⟩ := RepL.inv (by simpa only [List.map_cons] using h)
    rw [Rep.int_iff.mp h1, h2.ints]; rfl
theorem RepL.of_ints : ∀ (ns : List Int), RepL K ct H A M (ns.map PV.int) (ns.map V.int)
  | [] => .nil
  | n :: ns => .cons (Rep.int_iff.mpr rfl) (RepL.of_ints ns)
theorem RepL.bls : ∀ {ns : List Bool} {vs : List V}, RepL K ct H A M (ns.map PV.bl) vs → vs = ns.map V.bl
  | [], vs, h => by rw [RepL.nil_iff.mp h]; rfl
  | n :: ns, vs, h => by
    obtain ⟨v, r, rfl, h1, h2⟩ := RepL.inv (by simpa only [List.map_cons] using h)
    rw [Rep.bl_iff.mp h1, h2.bls]; rfl
/-- as the layer's own sequences -/
theorem Vw.sqL {a : Addr} {vs : List V} (h : Vw H A M a (.lst vs)) : SqL K H a vs := .inl (.inl h.1)
theorem Vw.sqT {a : Addr} {vs : List V} (h : Vw H A M a (.tup vs)) : SqT K H a vs := .inl (.inl h.1)
theorem sq_scr {a : Addr} {vs : List V} (h : VwR H A M a (.lst vs) ∨ SqL K H00 a vs) : SqL K H a vs := by
  rcases h with ⟨r, _, _⟩ | h
  · exact .inl r
  · rcases h with (h | ⟨o, h⟩) | h
    · cases h
    · cases h
    · exact .inr h
theorem Rep.lst_inv {xs : List PV} {x : V} (h : Rep K ct H A M (.lst xs) x) : ∃ a vs, x = .ref a ∧ Vw H A M a (.lst vs) ∧ RepL K ct H A M xs vs := by
  simpa only [Rep] using h
theorem Rep.tup_inv {xs : List PV} {x : V} (h : Rep K ct H A M (.tup xs) x) : ∃ a vs, x = .ref a ∧ Vw H A M a (.tup vs) ∧ RepL K ct H A M xs vs := by
  simpa only [Rep] using h
theorem Rep.scr_inv {ns : List Int} {x : V} (h : Rep K ct H A M (.scr ns) x) : ∃ a, x = .ref a ∧ SqL K H a (ns.map V.int) ∧ (VwR H A M a (.lst (ns.map V.int)) ∨ SqL K H00 a (ns.map V.int)) := by
  simp only [Rep] at h
  obtain ⟨a, e1, e2⟩ := h
  exact ⟨a, e1, sq_scr e2, e2⟩
/-- a new tuple, a new list -/
theorem Rep.new_tup {xs : List PV} {vs : List V} {p : Addr} (h : RepL K ct H A M xs vs) (np : H p = none) (hA : ∀ a ∈ A, H a ≠ none) (hM : ∀ a ∈ M, H a ≠ none) (nd : A.Nodup) : Rep K ct (upd H p (.tup vs)) A M (.tup xs) (.ref p) := by
  simp only [Rep]
  exact ⟨p, vs, rfl, ⟨upd_same, fun z => hA p z np, fun z => hM p z np⟩, h.lat ((Post.grow nd (same_new np)).lat M) xs vs⟩
theorem Rep.new_lst {xs : List PV} {vs : List V} {p : Addr} (h : RepL K ct H A M xs vs) (np : H p = none) (hA : ∀ a ∈ A, H a ≠ none) (hM : ∀ a ∈ M, H a ≠ none) (nd : A.Nodup) : Rep K ct (upd H p (.lst vs)) A M (.lst xs) (.ref p) := by
  simp only [Rep]
  exact ⟨p, vs, rfl, ⟨upd_same, fun z => hA p z np, fun z => hM p z np⟩, h.lat ((Post.grow nd (same_new np)).lat M) xs vs⟩

theorem StoOk.inA {S : Sto} (s : StoOk K ct H A M S) : ∀ a ∈ A, H a ≠ none := fun a ha e => by
  obtain ⟨n, hn, rfl⟩ := List.mem_iff_getElem.mp ha
  have hs : n < S.length := by rw [s.len]; exact hn
  obtain ⟨vs, h, _⟩ := s.at' n A[n] S[n] (List.getElem?_eq_getElem hn) (List.getElem?_eq_getElem hs)
  rw [e] at h; cases h
/-- the shared lists behind a step that lays new objects alone -/
theorem StoOk.grow {S : Sto} (s : StoOk K ct H A M S) (nd : A.Nodup) (g : Same H H') : StoOk K ct H' A M S :=
  ⟨s.len, fun n a xs h1 h2 => let ⟨vs, h3, h4⟩ := s.at' n a xs h1 h2; ⟨vs, g _ _ h3, h4.lat ((Post.grow nd g).lat M) xs vs⟩⟩
theorem StoOk.less {S : Sto} {M' : List Addr} (s : StoOk K ct H A M S) (h : ∀ a ∈ M', a ∈ M) : StoOk K ct H A M' S :=
  ⟨s.len, fun n a xs h1 h2 => let ⟨vs, h3, h4⟩ := s.at' n a xs h1 h2; ⟨vs, h3, h4.lat ⟨List.prefix_refl A, fun b o e n m => ⟨e, n, fun z => m (h b z)⟩⟩ xs vs⟩⟩
theorem lat_less {M' : List Addr} (h : ∀ a ∈ M', a ∈ M) : Lat A M H A M' H := ⟨List.prefix_refl A, fun b o e n m => ⟨e, n, fun z => m (h b z)⟩⟩
theorem lat_hide {p : Addr} (np : H p = none) (g : Same H H') : Lat A M H A (p :: M) H' := ⟨List.prefix_refl A, fun b o e n m => ⟨g b o e, n, fun z => by
  rcases List.mem_cons.mp (show _ ∈ _ :: _ from z) with z | z
  · subst z; rw [np] at e; cases e
  · exact m z⟩⟩
/-- an object that is hidden or shared changes -/
theorem lat_upd {p : Addr} {o : HO} (hp : p ∈ A ∨ p ∈ M) : Lat A M H A M (upd H p o) := ⟨List.prefix_refl A, fun b u e n m => ⟨by
  rw [upd_ne (fun z => by subst z; exact hp.elim n m)]; exact e, n, m⟩⟩
end

/-! ### the frame -/
structure Gh where
  H0 : Hp
  A0 : List Addr
  M0 : List Addr
  A : List Addr
  M : List Addr
section
variable (K : PySem.W.Frag) (ct : Ct)
def SlotOk (G : Gh) (σ : St) (H : Hp) (i : Nat) : Slot → Prop
  | .un => True
  | .val v => ∃ x, σ[i]? = some (some x) ∧ Rep K ct H G.A G.M v x
  | .own v => ∃ p, σ[i]? = some (some (.ref p)) ∧ p ∈ G.M ∧ G.H0 p = none ∧ Cont K ct H G.A G.M p v
structure Good (G : Gh) (σ : St) (H : Hp) (env : Env) (S : Sto) : Prop where
  bs : Bs K ct G.A G.M H S
  slot : ∀ (i : Nat) (s : Slot), env[i]? = some s → SlotOk K ct G σ H i s
  uniq : ∀ (i j : Nat) (v w : PV) (p : Addr), env[i]? = some (.own v) → env[j]? = some (.own w) → σ[i]? = some (some (.ref p)) → σ[j]? = some (some (.ref p)) → i = j
  ext0 : ∀ a o, G.H0 a = some o → a ∉ G.A0 → H a = some o
  pre0 : G.A0 <+: G.A
  new0 : ∀ a ∈ G.A, a ∈ G.A0 ∨ G.H0 a = none
  sub0 : ∀ a ∈ G.M0, a ∈ G.M
  in0 : ∀ a ∈ G.M0, G.H0 a ≠ none
  len : env.length = σ.length
end
section
variable {K : PySem.W.Frag} {ct : Ct} {G : Gh} {σ : St} {H H' : Hp} {env : Env} {S S' : Sto} {A' : List Addr}
theorem Cont.lat {A M A' M' : List Addr} {p : Addr} {v : PV} (l : Lat A M H A' M' H') (e : H' p = H p) (c : Cont K ct H A M p v) : Cont K ct H' A' M' p v := by
  cases v with
  | lst xs =>
    obtain ⟨vs, h1, h2⟩ := c
    exact ⟨vs, e.trans h1, h2.lat l xs vs⟩
  | dic t ks xs =>
    rcases c with ⟨ht, ws, h1, h2, h3⟩ | ⟨ht, ws, h1, h2, h3⟩
    · exact .inl ⟨ht, ws, e.trans h1, h2, h3.lat l xs _⟩
    · exact .inr ⟨ht, ws, e.trans h1, h2, h3.lat l xs _⟩
  | _ => exact False.elim c
theorem Cont.there {A M : List Addr} {p : Addr} {v : PV} (c : Cont K ct H A M p v) : ∃ o, H p = some o := by
  cases v with
  | lst xs => obtain ⟨vs, h1, h2⟩ := c; exact ⟨_, h1⟩
  | dic t ks xs => rcases c with ⟨ht, ws, h1, h2, h3⟩ | ⟨ht, ws, h1, h2, h3⟩ <;> exact ⟨_, h1⟩
  | _ => exact False.elim c
theorem Cont.noT {A M : List Addr} {p : Addr} {v : PV} (c : Cont K ct H A M p v) : ∀ vs, H p ≠ some (.tup vs) := fun us e => by
  cases v with
  | lst xs => obtain ⟨vs, h1, h2⟩ := c; rw [e] at h1; cases h1
  | dic t ks xs => rcases c with ⟨ht, ws, h1, h2, h3⟩ | ⟨ht, ws, h1, h2, h3⟩ <;> (rw [e] at h1; cases h1)
  | _ => exact False.elim c
theorem Good.inA (g : Good K ct G σ H env S) : ∀ a ∈ G.A, H a ≠ none := g.bs.sto.inA
/-- behind an expression -/
theorem Good.post (g : Good K ct G σ H env S) (x : Post G.A H A' H') (s : StoOk K ct H' A' G.M S') : Good K ct { G with A := A' } σ H' env S' where
  bs := ⟨s, x.nodup, fun a ha e => by
    cases q : H a with
    | none => exact g.bs.inM a ha q
    | some o => exact absurd ((x.ext a o q (g.bs.disj a ha)).symm.trans e) (by simp), fun a ha => by
    cases q : H a with
    | none => exact absurd q (g.bs.inM a ha)
    | some o => exact x.out q (g.bs.disj a ha), fun a ha vs e => by
    cases q : H a with
    | none => exact absurd q (g.bs.inM a ha)
    | some o => exact g.bs.noT a ha vs (by rw [q, ← e]; exact (x.ext a o q (g.bs.disj a ha)).symm)⟩
  slot := fun i s hs => by
    have q := g.slot i s hs
    cases s with
    | un => trivial
    | val v =>
      obtain ⟨y, h1, h2⟩ := q
      exact ⟨y, h1, h2.lat (x.lat G.M) v y⟩
    | own v =>
      obtain ⟨p, h1, h2, h3, h4⟩ := q
      obtain ⟨o, ho⟩ := h4.there
      exact ⟨p, h1, h2, h3, h4.lat (x.lat G.M) ((x.ext p o ho (g.bs.disj p h2)).trans ho.symm)⟩
  uniq := g.uniq
  ext0 := fun a o h n => x.ext a o (g.ext0 a o h n) (fun z => by
    rcases g.new0 a z with q | q
    · exact n q
    · rw [q] at h; cases h)
  pre0 := g.pre0.trans x.pre
  new0 := fun a h => by
    rcases x.new a h with q | q
    · exact g.new0 a q
    · by_cases ha : a ∈ G.A0
      · exact .inl ha
      · refine .inr ?_
        cases e : G.H0 a with
        | none => rfl
        | some o => rw [g.ext0 a o e ha] at q; cases q
  sub0 := g.sub0
  in0 := g.in0
  len := g.len
theorem Good.grow (g : Good K ct G σ H env S) (h : Same H H') : Good K ct G σ H' env S := g.post (Post.grow g.bs.nodup h) (g.bs.sto.grow g.bs.nodup h)
theorem Good.fresh0 (g : Good K ct G σ H env S) {p : Addr} (h : H p = none) : G.H0 p = none := by
  cases e : G.H0 p with
  | none => rfl
  | some o =>
    by_cases ha : p ∈ G.A0
    · exact absurd h (g.inA p (g.pre0.subset ha))
    · rw [g.ext0 p o e ha] at h; cases h
/-- fewer hidden: those that no name owns -/
theorem Good.less {M' : List Addr} (g : Good K ct G σ H env S) (h : ∀ a ∈ M', a ∈ G.M) (h0 : ∀ a ∈ G.M0, a ∈ M') (ho : ∀ (i : Nat) (v : PV) (p : Addr), env[i]? = some (.own v) → σ[i]? = some (some (.ref p)) → p ∈ M') : Good K ct { G with M := M' } σ H env S where
  bs := ⟨g.bs.sto.less h, g.bs.nodup, fun a ha => g.bs.inM a (h a ha), fun a ha => g.bs.disj a (h a ha), fun a ha => g.bs.noT a (h a ha)⟩
  slot := fun i s hs => by
    have q := g.slot i s hs
    cases s with
    | un => trivial
    | val v =>
      obtain ⟨y, h1, h2⟩ := q
      exact ⟨y, h1, h2.lat (lat_less h) v y⟩
    | own v =>
      obtain ⟨p, h1, h2, h3, h4⟩ := q
      exact ⟨p, h1, ho i v p hs h1, h3, h4.lat (lat_less h) rfl⟩
  uniq := g.uniq
  ext0 := g.ext0
  pre0 := g.pre0
  new0 := g.new0
  sub0 := h0
  in0 := g.in0
  len := g.len
/-- a new object, hidden -/
theorem Good.hide {p : Addr} (g : Good K ct G σ H env S) (np : H p = none) (h : Same H H') (ht : H' p ≠ none) (hu : ∀ vs, H' p ≠ some (.tup vs)) : Good K ct { G with M := p :: G.M } σ H' env S where
  bs := ⟨⟨g.bs.sto.len, fun n a xs h1 h2 => let ⟨vs, h3, h4⟩ := g.bs.sto.at' n a xs h1 h2; ⟨vs, h _ _ h3, h4.lat (lat_hide np h) xs vs⟩⟩, g.bs.nodup, fun a ha e => by
      rcases List.mem_cons.mp ha with z | z
      · subst z; exact ht e
      · cases q : H a with
        | none => exact g.bs.inM a z q
        | some o => exact absurd ((h a o q).symm.trans e) (by simp), fun a ha hA => by
      rcases List.mem_cons.mp ha with z | z
      · subst z; exact g.inA a hA np
      · exact g.bs.disj a z hA, fun a ha vs e => by
      rcases List.mem_cons.mp ha with z | z
      · subst z; exact hu vs e
      · cases q : H a with
        | none => exact g.bs.inM a z q
        | some o => exact g.bs.noT a z vs (by rw [q, ← e]; exact (h a o q).symm)⟩
  slot := fun i s hs => by
    have q := g.slot i s hs
    cases s with
    | un => trivial
    | val v =>
      obtain ⟨y, h1, h2⟩ := q
      exact ⟨y, h1, h2.lat (lat_hide np h) v y⟩
    | own v =>
      obtain ⟨p', h1, h2, h3, h4⟩ := q
      obtain ⟨o, ho⟩ := h4.there
      exact ⟨p', h1, List.mem_cons_of_mem _ h2, h3, h4.lat (lat_hide np h) ((h p' o ho).trans ho.symm)⟩
  uniq := g.uniq
  ext0 := fun a o e n => h a o (g.ext0 a o e n)
  pre0 := g.pre0
  new0 := g.new0
  sub0 := fun a ha => List.mem_cons_of_mem _ (g.sub0 a ha)
  in0 := g.in0
  len := g.len
theorem getSet {α : Type} {l : List α} {i j : Nat} {a b : α} (h : (l.set i a)[j]? = some b) : (i = j ∧ b = a ∧ i < l.length) ∨ (i ≠ j ∧ l[j]? = some b) := by
  by_cases hj : i = j
  · subst hj
    by_cases hi : i < l.length
    · rw [List.getElem?_set_self hi] at h; cases h; exact .inl ⟨rfl, rfl, hi⟩
    · rw [List.getElem?_eq_none (by rw [List.length_set]; omega)] at h; cases h
  · rw [List.getElem?_set_ne hj] at h; exact .inr ⟨hj, h⟩
/-- a name stored -/
theorem Good.set {i : Nat} {x : V} {v : PV} (g : Good K ct G σ H env S) (r : Rep K ct H G.A G.M v x) : Good K ct G (σ.set i (some x)) H (env.set i (.val v)) S where
  bs := g.bs
  slot := fun j s hs => by
    rcases getSet hs with ⟨rfl, rfl, hi⟩ | ⟨hj, hs⟩
    · exact ⟨x, List.getElem?_set_self (by rw [← g.len]; exact hi), r⟩
    · have q := g.slot j s hs
      cases s with
      | un => trivial
      | val w => obtain ⟨y, h1, h2⟩ := q; exact ⟨y, (List.getElem?_set_ne hj).trans h1, h2⟩
      | own w => obtain ⟨p, h1, h2⟩ := q; exact ⟨p, (List.getElem?_set_ne hj).trans h1, h2⟩
  uniq := fun a b u w p h1 h2 h3 h4 => by
    rcases getSet h1 with ⟨_, h, _⟩ | ⟨ha, h1⟩
    · cases h
    · rcases getSet h2 with ⟨_, h, _⟩ | ⟨hb, h2⟩
      · cases h
      · rw [List.getElem?_set_ne ha] at h3
        rw [List.getElem?_set_ne hb] at h4
        exact g.uniq a b u w p h1 h2 h3 h4
  ext0 := g.ext0
  pre0 := g.pre0
  new0 := g.new0
  sub0 := g.sub0
  in0 := g.in0
  len := by rw [List.length_set, List.length_set]; exact g.len
/-- a name forgotten -/
theorem Good.setUn {i : Nat} (g : Good K ct G σ H env S) : Good K ct G (σ.set i none) H (env.set i .un) S where
  bs := g.bs
  slot := fun j s hs => by
    rcases getSet hs with ⟨rfl, rfl, hi⟩ | ⟨hj, hs⟩
    · trivial
    · have q := g.slot j s hs
      cases s with
      | un => trivial
      | val w => obtain ⟨y, h1, h2⟩ := q; exact ⟨y, (List.getElem?_set_ne hj).trans h1, h2⟩
      | own w => obtain ⟨p, h1, h2⟩ := q; exact ⟨p, (List.getElem?_set_ne hj).trans h1, h2⟩
  uniq := fun a b u w p h1 h2 h3 h4 => by
    rcases getSet h1 with ⟨_, h, _⟩ | ⟨ha, h1⟩
    · cases h
    · rcases getSet h2 with ⟨_, h, _⟩ | ⟨hb, h2⟩
      · cases h
      · rw [List.getElem?_set_ne ha] at h3
        rw [List.getElem?_set_ne hb] at h4
        exact g.uniq a b u w p h1 h2 h3 h4
  ext0 := g.ext0
  pre0 := g.pre0
  new0 := g.new0
  sub0 := g.sub0
  in0 := g.in0
  len := by rw [List.length_set, List.length_set]; exact g.len
/-- a name stored that owns what is hidden at p -/
theorem Good.setOwn {i : Nat} {p : Addr} {v : PV} (g : Good K ct G σ H env S) (hp : p ∈ G.M) (h0 : G.H0 p = none) (c : Cont K ct H G.A G.M p v) (hu : ∀ (j : Nat) (w : PV), j ≠ i → env[j]? = some (.own w) → σ[j]? ≠ some (some (.ref p))) :
    Good K ct G (σ.set i (some (.ref p))) H (env.set i (.own v)) S where
  bs := g.bs
  slot := fun j s hs => by
    rcases getSet hs with ⟨rfl, rfl, hi⟩ | ⟨hj, hs⟩
    · exact ⟨p, List.getElem?_set_self (by rw [← g.len]; exact hi), hp, h0, c⟩
    · have q := g.slot j s hs
      cases s with
      | un => trivial
      | val w => obtain ⟨y, h1, h2⟩ := q; exact ⟨y, (List.getElem?_set_ne hj).trans h1, h2⟩
      | own w => obtain ⟨p, h1, h2⟩ := q; exact ⟨p, (List.getElem?_set_ne hj).trans h1, h2⟩
  uniq := fun a b u w q h1 h2 h3 h4 => by
    rcases getSet h1 with ⟨ea, _, hi⟩ | ⟨ha, h1⟩
    · rcases getSet h2 with ⟨eb, _, _⟩ | ⟨hb, h2⟩
      · exact ea.symm.trans eb
      · subst ea
        rw [List.getElem?_set_self (by rw [← g.len]; exact hi)] at h3; cases h3
        rw [List.getElem?_set_ne hb] at h4
        exact absurd h4 (hu b w (Ne.symm hb) h2)
    · rcases getSet h2 with ⟨eb, _, hi⟩ | ⟨hb, h2⟩
      · subst eb
        rw [List.getElem?_set_self (by rw [← g.len]; exact hi)] at h4; cases h4
        rw [List.getElem?_set_ne ha] at h3
        exact absurd h3 (hu a u (Ne.symm ha) h1)
      · rw [List.getElem?_set_ne ha] at h3
        rw [List.getElem?_set_ne hb] at h4
        exact g.uniq a b u w q h1 h2 h3 h4
  ext0 := g.ext0
  pre0 := g.pre0
  new0 := g.new0
  sub0 := g.sub0
  in0 := g.in0
  len := by rw [List.length_set, List.length_set]; exact g.len
/-- what a name owns is changed -/
theorem Good.mutOwn {i : Nat} {p : Addr} {v w : PV} {o : HO} (g : Good K ct G σ H env S) (e : env[i]? = some (.own v)) (eσ : σ[i]? = some (some (.ref p))) (c : Cont K ct (upd H p o) G.A G.M p w) : Good K ct G σ (upd H p o) (env.set i (.own w)) S := by
  obtain ⟨p', h1, hp, h0, c0⟩ := g.slot i _ e
  rw [eσ] at h1; cases h1
  obtain ⟨o0, ho0⟩ := c0.there
  have l : Lat G.A G.M H G.A G.M (upd H p o) := lat_upd (.inr hp)
  have hi : i < σ.length := (List.getElem?_eq_some_iff.mp eσ).1
  refine ⟨⟨⟨g.bs.sto.len, fun n a xs h1 h2 => ?_⟩, g.bs.nodup, fun a ha => ?_, g.bs.disj, fun a ha vs ev => ?_⟩, fun j s hs => ?_, fun a b u w' q h1 h2 h3 h4 => ?_, fun a ob h n => ?_, g.pre0, g.new0, g.sub0, g.in0, by rw [List.length_set]; exact g.len⟩
  · obtain ⟨vs, h3, h4⟩ := g.bs.sto.at' n a xs h1 h2
    have hne : a ≠ p := fun z => g.bs.disj p hp (z ▸ List.mem_of_getElem? h1)
    exact ⟨vs, by rw [upd_ne hne]; exact h3, h4.lat l xs vs⟩
  · by_cases hap : a = p
    · subst hap; rw [upd_same]; simp
    · rw [upd_ne hap]; exact g.bs.inM a ha
  · by_cases hap : a = p
    · subst hap; exact c.noT vs ev
    · rw [upd_ne hap] at ev; exact g.bs.noT a ha vs ev
  · by_cases hj : i = j
    · subst hj
      rw [List.getElem?_set_self (by rw [g.len]; exact hi)] at hs
      cases hs
      exact ⟨p, eσ, hp, h0, c⟩
    · rw [List.getElem?_set_ne hj] at hs
      have q := g.slot j s hs
      cases s with
      | un => trivial
      | val u => obtain ⟨y, h1, h2⟩ := q; exact ⟨y, h1, h2.lat l u y⟩
      | own u =>
        obtain ⟨p', h1, h2, h3, h4⟩ := q
        have hne : p' ≠ p := fun z => by subst z; exact hj (g.uniq i j _ _ _ e hs eσ h1)
        exact ⟨p', h1, h2, h3, h4.lat l (by rw [upd_ne hne])⟩
  · have k1 : ∃ u', env[a]? = some (.own u') := by
      by_cases ha : i = a
      · subst ha; exact ⟨_, e⟩
      · rw [List.getElem?_set_ne ha] at h1; exact ⟨_, h1⟩
    have k2 : ∃ u', env[b]? = some (.own u') := by
      by_cases hb : i = b
      · subst hb; exact ⟨_, e⟩
      · rw [List.getElem?_set_ne hb] at h2; exact ⟨_, h2⟩
    obtain ⟨u1, k1⟩ := k1
    obtain ⟨u2, k2⟩ := k2
    exact g.uniq a b u1 u2 q k1 k2 h3 h4
  · have hne : a ≠ p := fun z => by subst z; rw [h0] at h; cases h
    rw [upd_ne hne]; exact g.ext0 a ob h n
end
end J
set_option Elab.async false
set_option linter.all false
set_option maxRecDepth 100000
/-! J: the judgements, basic expressions and statements. -/
namespace J
open PySem L2

inductive Res (α : Type) where
  | ok (a : α)
  | err
def Res.bind {α β : Type} : Res α → (α → Res β) → Res β
  | .ok a, f => f a
  | .err, _ => .err
theorem Res.bind_ok {α β : Type} {x : Res α} {f : α → Res β} {b : β} (h : x.bind f = .ok b) : ∃ a, x = .ok a ∧ f a = .ok b := by
  cases x with
  | ok a => exact ⟨a, rfl, h⟩
  | err => cases h
def ofO {α : Type} : Option α → Res α
  | some a => .ok a
  | none => .err
theorem ofO_ok {α : Type} {x : Option α} {a : α} (h : ofO x = .ok a) : x = some a := by
  cases x with
  | some b => cases h; rfl
  | none => cases h
abbrev FE := Env → Sto → Res (PV × Sto)
abbrev FT := Env → Sto → Res (Bool × Sto)
abbrev FA := Env → Sto → Res (List PV × Sto)
inductive Fl where
  | nx (e : Env) (S : Sto)
  | rt (v : PV) (S : Sto)
  | bk (e : Env) (S : Sto)
  | ct (e : Env) (S : Sto)
abbrev FS := Env → Sto → Res Fl

structure Hx (A M : List Addr) (H : Hp) : Prop where
  nd : A.Nodup
  inA : ∀ a ∈ A, H a ≠ none
  inM : ∀ a ∈ M, H a ≠ none
  noA : ∀ a ∈ A, ∀ vs, H a ≠ some (.tup vs)
  noM : ∀ a ∈ M, ∀ vs, H a ≠ some (.tup vs)
section
variable (K : PySem.W.Frag) (ct : Ct)
def rd (f : FE) : TE := fun σ H Q => ∃ G env S v S', Good K ct G σ H env S ∧ f env S = .ok (v, S') ∧
  ∀ x H' A', Post G.A H A' H' → StoOk K ct H' A' G.M S' → Rep K ct H' A' G.M v x → Q x H'
def rdT (f : FT) : TT := fun σ H Q => ∃ G env S v S', Good K ct G σ H env S ∧ f env S = .ok (v, S') ∧
  ∀ H' A', Post G.A H A' H' → StoOk K ct H' A' G.M S' → Q v H'
def rdA (f : FA) : TA := fun σ H Q => ∃ G env S v S', Good K ct G σ H env S ∧ f env S = .ok (v, S') ∧
  ∀ x H' A', Post G.A H A' H' → StoOk K ct H' A' G.M S' → RepL K ct H' A' G.M v x → Q x H'
/-- a new list or dict, hidden at once -/
def rdF (f : FE) : TE := fun σ H Q => ∃ G env S v S', Good K ct G σ H env S ∧ f env S = .ok (v, S') ∧
  ∀ p H' A', Post G.A H A' H' → H p = none → p ∉ A' → StoOk K ct H' A' (p :: G.M) S' → Cont K ct H' A' (p :: G.M) p v → Q (.ref p) H'
/-- what may be read at once, be it owned -/
def RepB (H : Hp) (A M : List Addr) (v : PV) (x : V) : Prop := Rep K ct H A M v x ∨ ∃ p, x = .ref p ∧ p ∈ M ∧ Cont K ct H A M p v
def rdB (f : FE) : TE := fun σ H Q => ∃ G env S v S', Good K ct G σ H env S ∧ f env S = .ok (v, S') ∧
  ∀ x H' A', Post G.A H A' H' → StoOk K ct H' A' G.M S' → RepB K ct H' A' G.M v x → Q x H'
def FlOk (G : Gh) (H : Hp) (D : Ends) : Fl → Prop
  | .nx e S => ∀ σ' H' A' M', Lat G.A G.M H A' M' H' → Good K ct { G with A := A', M := M' } σ' H' e S → D.nx σ' H'
  | .bk e S => ∀ σ' H' A' M', Lat G.A G.M H A' M' H' → Good K ct { G with A := A', M := M' } σ' H' e S → D.bk σ' H'
  | .ct e S => ∀ σ' H' A' M', Lat G.A G.M H A' M' H' → Good K ct { G with A := A', M := M' } σ' H' e S → D.ct σ' H'
  | .rt v S => ∀ x H' A', Post G.A0 G.H0 A' H' → StoOk K ct H' A' G.M0 S → Rep K ct H' A' G.M0 v x → D.rt x H'
def rdS (f : FS) : TS := fun D σ H => ∃ G env S fl, Good K ct G σ H env S ∧ f env S = .ok fl ∧ FlOk K ct G H D fl
end
structure JE (ct : Ct) (X : Cx) (e : Expr) (f : FE) : Prop where
  pe : PE X e (rd X.K ct f)
structure JF (ct : Ct) (X : Cx) (e : Expr) (f : FE) : Prop where
  pe : PE X e (rdF X.K ct f)
structure JB (ct : Ct) (X : Cx) (e : Expr) (f : FE) : Prop where
  pe : PE X e (rdB X.K ct f)
structure JT (ct : Ct) (X : Cx) (e : Expr) (f : FT) : Prop where
  pt : PT X e (rdT X.K ct f)
structure JW (ct : Ct) (X : Cx) (e : Expr) (f : FT) : Prop where
  pw : PW X e (rdT X.K ct f)
structure JA (ct : Ct) (X : Cx) (es : List Expr) (f : FA) : Prop where
  pa : PA X es (rdA X.K ct f)
structure JK (ct : Ct) (X : Cx) (es : List Keyword) (f : FA) : Prop where
  pk : PK X es (rdA X.K ct f)
structure JS (ct : Ct) (X : Cx) (st : Stmt) (f : FS) : Prop where
  ps : PS X st (rdS X.K ct f)
structure JSs (ct : Ct) (X : Cx) (st : List Stmt) (f : FS) : Prop where
  ps : PSs X st (rdS X.K ct f)

theorem _root_.L2.PE.imp {X : Cx} {e : Expr} {t t' : TE} (h : PE X e t) (i : ∀ σ H Q, t' σ H Q → t σ H Q) : PE X e t' := ⟨fun pins s σ H Q I q => h.run pins s σ H Q I (i σ H Q q)⟩
theorem _root_.L2.PT.imp {X : Cx} {e : Expr} {t t' : TT} (h : PT X e t) (i : ∀ σ H Q, t' σ H Q → t σ H Q) : PT X e t' := ⟨fun pins s σ H Q I q => h.run pins s σ H Q I (i σ H Q q)⟩
theorem _root_.L2.PW.imp {X : Cx} {e : Expr} {t t' : TT} (h : PW X e t) (i : ∀ σ H Q, t' σ H Q → t σ H Q) : PW X e t' := ⟨fun wh pins s σ H Q I q => h.run wh pins s σ H Q I (i σ H Q q)⟩
theorem _root_.L2.PA.imp {X : Cx} {e : List Expr} {t t' : TA} (h : PA X e t) (i : ∀ σ H Q, t' σ H Q → t σ H Q) : PA X e t' := ⟨fun pos pins s σ H Q I q => h.run pos pins s σ H Q I (i σ H Q q)⟩
theorem _root_.L2.PK.imp {X : Cx} {e : List Keyword} {t t' : TA} (h : PK X e t) (i : ∀ σ H Q, t' σ H Q → t σ H Q) : PK X e t' := ⟨fun pos pins s σ H Q I q => h.run pos pins s σ H Q I (i σ H Q q)⟩
theorem _root_.L2.PS.imp {X : Cx} {e : Stmt} {t t' : TS} (h : PS X e t) (i : ∀ D σ H, t' D σ H → t D σ H) : PS X e t' := ⟨fun pins s σ H Q I q => h.run pins s σ H Q I (i Q σ H q)⟩
theorem _root_.L2.PSs.imp {X : Cx} {e : List Stmt} {t t' : TS} (h : PSs X e t) (i : ∀ D σ H, t' D σ H → t D σ H) : PSs X e t' := ⟨fun pins s σ H Q I q => h.run pins s σ H Q I (i Q σ H q)⟩

theorem Good.hx {K : PySem.W.Frag} {ct : Ct} {G : Gh} {σ : St} {H : Hp} {env : Env} {S : Sto} (g : Good K ct G σ H env S) : Hx G.A G.M H := ⟨g.bs.nodup, g.inA, g.bs.inM, fun a ha vs e => by
  obtain ⟨n, hn, rfl⟩ := List.mem_iff_getElem.mp ha
  have hs : n < S.length := by rw [g.bs.sto.len]; exact hn
  obtain ⟨us, h, _⟩ := g.bs.sto.at' n _ S[n] (List.getElem?_eq_getElem hn) (List.getElem?_eq_getElem hs)
  exact absurd (e.symm.trans h) (by simp), g.bs.noT⟩

/-! ### the pure words -/
def eV (i : Nat) : FE := fun env S => match env[i]? with
  | some (.val v) => .ok (v, S)
  | _ => .err
/-- a name that owns, read at once -/
def eO (i : Nat) : FE := fun env S => match env[i]? with
  | some (.own v) => .ok (v, S)
  | _ => .err
def eC (v : PV) : FE := fun _ S => .ok (v, S)
def eX : FE := fun _ _ => .err
def eOp (op : PV → PV → Option PV) (a b : FE) : FE := fun env S => (a env S).bind fun x => (b env x.2).bind fun y => (ofO (op x.1 y.1)).bind fun z => .ok (z, y.2)
def eUn (op : PV → Option PV) (a : FE) : FE := fun env S => (a env S).bind fun x => (ofO (op x.1)).bind fun z => .ok (z, x.2)
def eAnd (a b : FE) : FE := fun env S => (a env S).bind fun x => match x.1 with
  | .bl true => b env x.2
  | .bl false => .ok (.bl false, x.2)
  | _ => .err
def eOr (a b : FE) : FE := fun env S => (a env S).bind fun x => match x.1 with
  | .bl true => .ok (.bl true, x.2)
  | .bl false => b env x.2
  | _ => .err
def pNot : PV → Option PV
  | .bl b => some (.bl (!b))
  | _ => none
def tV (a : FE) : FT := fun env S => (a env S).bind fun x => match x.1 with
  | .bl b => .ok (b, x.2)
  | _ => .err
def tAn (a b : FT) : FT := fun env S => (a env S).bind fun x => if x.1 then b env x.2 else .ok (false, x.2)
def tOrr (a b : FT) : FT := fun env S => (a env S).bind fun x => if x.1 then .ok (true, x.2) else b env x.2
def tNo (a : FT) : FT := fun env S => (a env S).bind fun x => .ok (!x.1, x.2)
def eIf (c : FT) (a b : FE) : FE := fun env S => (c env S).bind fun x => if x.1 then a env x.2 else b env x.2
def aNil : FA := fun _ S => .ok ([], S)
def aCons (a : FE) (r : FA) : FA := fun env S => (a env S).bind fun x => (r env x.2).bind fun y => .ok (x.1 :: y.1, y.2)
def eB (op : List PV → Option PV) (a : FA) : FE := fun env S => (a env S).bind fun x => (ofO (op x.1)).bind fun z => .ok (z, x.2)
def eCall (f : List PV → Sto → Res (PV × Sto)) (a : FA) : FE := fun env S => (a env S).bind fun x => f x.1 x.2
def sNext : FS := fun env S => .ok (.nx env S)
def sX : FS := fun _ _ => .err
def sBreak : FS := fun env S => .ok (.bk env S)
def sCont : FS := fun env S => .ok (.ct env S)
def sSeq (a b : FS) : FS := fun env S => (a env S).bind fun r => match r with
  | .nx e S' => b e S'
  | x => .ok x
def sRet (a : FE) : FS := fun env S => (a env S).bind fun x => .ok (.rt x.1 x.2)
def sIf (c : FT) (a b : FS) : FS := fun env S => (c env S).bind fun x => if x.1 then a env x.2 else b env x.2
def sSet (i : Nat) (a : FE) : FS := fun env S => (a env S).bind fun x => .ok (.nx (env.set i (.val x.1)) x.2)
def sOwn (i : Nat) (a : FE) : FS := fun env S => (a env S).bind fun x => .ok (.nx (env.set i (.own x.1)) x.2)
def sDrop (a : FE) : FS := fun env S => (a env S).bind fun x => .ok (.nx env x.2)
def frz (i : Nat) (env : Env) : Env := match env[i]? with
  | some (.own v) => env.set i (.val v)
  | _ => env
def sFrz (i : Nat) (a : FS) : FS := fun env S => a (frz i env) S

section
variable {ct : Ct} {X : Cx} {e a b c : Expr} {fa fb fe : FE} {pos : Pos}
theorem je_never : JE ct X e eX := ⟨⟨fun _ _ _ _ _ _ h => by obtain ⟨_, _, _, _, _, _, h, _⟩ := h; cases h⟩⟩
theorem je_var (i : Nat) {x : Str} (hN : X.N[i]? = some x := by rfl) (hv : Vis X.env.scope x := by first | exact Or.inl rfl | exact Or.inr (Or.inl rfl) | exact Or.inr (Or.inr rfl)) (hd : (x == ("__debug__" : Str)) = false := by decide) (hcd : (x == ("__classdict__" : Str)) = false := by decide) : JE ct X (.Name x pos) (eV i) := by
  refine ⟨(pe_var hN hv hd hcd).imp fun σ H Q h => ?_⟩
  obtain ⟨G, env, S, v, S', g, h1, q⟩ := h
  unfold eV at h1
  split at h1
  · rename_i w hw
    cases h1
    obtain ⟨x, h2, r⟩ := g.slot i _ hw
    exact ⟨x, h2, q x H G.A (Post.refl H g.bs.nodup) g.bs.sto r⟩
  · cases h1
theorem jb_own (i : Nat) {x : Str} (hN : X.N[i]? = some x := by rfl) (hv : Vis X.env.scope x := by first | exact Or.inl rfl | exact Or.inr (Or.inl rfl) | exact Or.inr (Or.inr rfl)) (hd : (x == ("__debug__" : Str)) = false := by decide) (hcd : (x == ("__classdict__" : Str)) = false := by decide) : JB ct X (.Name x pos) (eO i) := by
  refine ⟨(pe_var hN hv hd hcd).imp fun σ H Q h => ?_⟩
  obtain ⟨G, env, S, v, S', g, h1, q⟩ := h
  unfold eO at h1
  split at h1
  · rename_i w hw
    cases h1
    obtain ⟨p, h2, h3, h4, r⟩ := g.slot i _ hw
    exact ⟨.ref p, h2, q _ H G.A (Post.refl H g.bs.nodup) g.bs.sto (.inr ⟨p, rfl, h3, r⟩)⟩
  · cases h1
theorem je_const {v : PV} {x : V} (h : PE X e (tC x)) (r : ∀ H A M, Rep X.K ct H A M v x) : JE ct X e (eC v) := by
  refine ⟨h.imp fun σ H Q h => ?_⟩
  obtain ⟨G, env, S, v, S', g, h1, q⟩ := h
  cases h1
  exact q x H G.A (Post.refl H g.bs.nodup) g.bs.sto (r H G.A G.M)
theorem je_int {i : Int} {j} : JE ct X (.Constant (.int i) j pos) (eC (.int i)) := je_const pe_int fun _ _ _ => Rep.int_iff.mpr rfl
theorem je_bl {i : Bool} {j} : JE ct X (.Constant (.bool i) j pos) (eC (.bl i)) := je_const pe_bl fun _ _ _ => Rep.bl_iff.mpr rfl
theorem je_str {i : Str} {j} : JE ct X (.Constant (.str i) j pos) (eC (.str i)) := je_const pe_str fun _ _ _ => Rep.str_iff.mpr rfl
theorem je_non {j} : JE ct X (.Constant .none j pos) (eC .non) := je_const pe_non fun _ _ _ => Rep.non_iff.mpr rfl
theorem je_globI {x : Str} {i : Int} {t : Tok} (hg : Gl X x) (hm : X.mg x = some (.int i t)) (hd : (x == ("__debug__" : Str)) = false := by decide) : JE ct X (.Name x pos) (eC (.int i)) := je_const (pe_glob (v := .int i) hg hm ⟨t, rfl⟩ hd) fun _ _ _ => Rep.int_iff.mpr rfl
theorem je_globS {x : Str} {i : Str} {t : Tok} (hg : Gl X x) (hm : X.mg x = some (.str i t)) (hd : (x == ("__debug__" : Str)) = false := by decide) : JE ct X (.Name x pos) (eC (.str i)) := je_const (pe_glob (v := .str i) hg hm ⟨t, rfl⟩ hd) fun _ _ _ => Rep.str_iff.mpr rfl

/-- a two-place operation by values: r does what op says -/
def OpOk (K : PySem.W.Frag) (ct : Ct) (r : R2) (op : PV → PV → Option PV) : Prop := ∀ (H : Hp) (A M : List Addr) (x y : V) (vx vy v : PV) (Q : VK), Hx A M H → RepB K ct H A M vx x → RepB K ct H A M vy y → op vx vy = some v →
  (∀ z H', Same H H' → Rep K ct H' A M v z → Q z H') → r x y H Q
theorem je_jb (h : JE ct X e fe) : JB ct X e fe := ⟨h.pe.imp fun σ H Q ⟨G, env, S, v, S', g, h1, q⟩ => ⟨G, env, S, v, S', g, h1, fun x H' A' p s r => q x H' A' p s (.inl r)⟩⟩
theorem RepB.lat {K : PySem.W.Frag} {A M A' : List Addr} {H H' : Hp} {v : PV} {x : V} (p : Post A H A' H') (d : ∀ a ∈ M, a ∉ A) (h : RepB K ct H A M v x) : RepB K ct H' A' M v x := by
  rcases h with h | ⟨q, e, hq, c⟩
  · exact .inl (h.lat (p.lat M) v x)
  · obtain ⟨o, ho⟩ := c.there
    exact .inr ⟨q, e, hq, c.lat (p.lat M) ((p.ext q o ho (d q hq)).trans ho.symm)⟩
theorem rd_op {K : PySem.W.Frag} {op : PV → PV → Option PV} {r : R2} (ho : OpOk K ct r op) {σ : St} {H : Hp} {Q : VK} (h : rd K ct (eOp op fa fb) σ H Q) : tOp r (rdB K ct fa) (rdB K ct fb) σ H Q := by
  obtain ⟨G, env, S, v, S', g, h1, q⟩ := h
  obtain ⟨⟨x, S1⟩, e1, h1⟩ := Res.bind_ok h1
  obtain ⟨⟨y, S2⟩, e2, h1⟩ := Res.bind_ok h1
  obtain ⟨z, e3, h1⟩ := Res.bind_ok h1
  cases h1
  refine ⟨G, env, S, x, S1, g, e1, fun x' H1 A1 p1 s1 r1 => ⟨{ G with A := A1 }, env, S1, y, _, g.post p1 s1, e2, fun y' H2 A2 p2 s2 r2 => ?_⟩⟩
  have g2 := (g.post p1 s1).post p2 s2
  refine ho H2 A2 G.M x' y' x y v Q g2.hx (r1.lat p2 (g.post p1 s1).bs.disj) r2 (ofO_ok e3) fun z H3 sm r3 => q z H3 A2 ((p1.trans p2).trans (Post.grow g2.bs.nodup sm)) (s2.grow g2.bs.nodup sm) r3
theorem je_op {o : Operator} {r : R2} {op : PV → PV → Option PV} (hr : OpR X (binaryOp o) r) (ho : OpOk X.K ct r op) (ha : JB ct X a fa) (hb : JB ct X b fb) : JE ct X (.BinOp a o b pos) (eOp op fa fb) :=
  ⟨(pe_op hr ha.pe hb.pe).imp fun _ _ _ h => rd_op ho h⟩
theorem je_cmp {o : CmpOp} {r : R2} {op : PV → PV → Option PV} (hr : OpR X (compareOp o) r) (ho : OpOk X.K ct r op) (ha : JB ct X a fa) (hb : JB ct X b fb) (hm : behindInMarks o b = false := by first | exact nomark _ | rfl) : JE ct X (.Compare a [o] [b] pos) (eOp op fa fb) :=
  ⟨(pe_cmpR hr ha.pe hb.pe hm).imp fun _ _ _ h => rd_op ho h⟩
theorem rdT_tTest {K : PySem.W.Frag} {f : FE} {t : TE} (i : ∀ σ H Q, rd K ct f σ H Q → t σ H Q) {σ : St} {H : Hp} {Q : Bool → Hp → Prop} (h : rdT K ct (tV f) σ H Q) : tTest t σ H Q := by
  obtain ⟨G, env, S, v, S', g, h1, q⟩ := h
  obtain ⟨⟨x, S1⟩, e1, h1⟩ := Res.bind_ok h1
  refine i σ H _ ⟨G, env, S, x, S1, g, e1, fun y H' A' p s r => ?_⟩
  dsimp only at h1
  split at h1
  · rename_i b hb
    cases h1
    exact ⟨_, Rep.bl_iff.mp r, q H' A' p s⟩
  · cases h1
theorem jt_cmp {o : CmpOp} {r : R2} {op : PV → PV → Option PV} (hr : OpR X (compareOp o) r) (ho : OpOk X.K ct r op) (ha : JB ct X a fa) (hb : JB ct X b fb) (hm : behindInMarks o b = false := by first | exact nomark _ | rfl) : JT ct X (.Compare a [o] [b] pos) (tV (eOp op fa fb)) :=
  ⟨(pt_cmpR hr ha.pe hb.pe hm).imp fun _ _ _ h => rdT_tTest (fun _ _ _ z => rd_op ho z) h⟩
theorem jt_val (h : JE ct X e fe) (he : ∀ whole, isTrue e X.env whole = (do let v ← whole; standAt e.pos; holding [v] (truthy v)) := by intro _; rfl) : JT ct X e (tV fe) :=
  ⟨(pt_val h.pe he).imp fun _ _ _ h => rdT_tTest (fun _ _ _ z => z) h⟩
theorem je_un {o : UnaryOp} {r : V → Hp → VK → Prop} {op : PV → Option PV} (hr : UnR X (unaryOp o) r)
    (ho : ∀ (H : Hp) (A M : List Addr) (x : V) (vx v : PV) (Q : VK), Rep X.K ct H A M vx x → op vx = some v → (∀ z, (∀ H A M, Rep X.K ct H A M v z) → Q z H) → r x H Q) (ha : JE ct X a fa) : JE ct X (.UnaryOp o a pos) (eUn op fa) := by
  refine ⟨(pe_un hr ha.pe).imp fun σ H Q h => ?_⟩
  obtain ⟨G, env, S, v, S', g, h1, q⟩ := h
  obtain ⟨⟨x, S1⟩, e1, h1⟩ := Res.bind_ok h1
  obtain ⟨z, e3, h1⟩ := Res.bind_ok h1
  cases h1
  exact ⟨G, env, S, x, _, g, e1, fun x' H1 A1 p1 s1 r1 => ho H1 A1 G.M x' x v Q r1 (ofO_ok e3) fun z rz => q z H1 A1 p1 s1 (rz H1 A1 G.M)⟩
theorem je_not (ha : JE ct X a fa) : JE ct X (.UnaryOp .Not a pos) (eUn pNot fa) := by
  refine ⟨(pe_not ha.pe).imp fun σ H Q h => ?_⟩
  obtain ⟨G, env, S, v, S', g, h1, q⟩ := h
  obtain ⟨⟨x, S1⟩, e1, h1⟩ := Res.bind_ok h1
  obtain ⟨z, e3, h1⟩ := Res.bind_ok h1
  cases h1
  refine ⟨G, env, S, x, _, g, e1, fun x' H1 A1 p1 s1 r1 => ?_⟩
  have e4 := ofO_ok e3
  cases x with
  | bl b =>
    cases e4
    exact ⟨b, Rep.bl_iff.mp r1, q _ H1 A1 p1 s1 (Rep.bl_iff.mpr rfl)⟩
  | _ => cases e4
theorem je_one {o} (h : JE ct X a fa) : JE ct X (.BoolOp o [a] pos) fa := ⟨pe_one h.pe⟩
variable {rest : List Expr}
theorem je_and (ha : JE ct X a fa) (hb : JE ct X (.BoolOp .And (b :: rest) pos) fb) : JE ct X (.BoolOp .And (a :: b :: rest) pos) (eAnd fa fb) := by
  refine ⟨(pe_and ha.pe hb.pe).imp fun σ H Q h => ?_⟩
  obtain ⟨G, env, S, v, S', g, h1, q⟩ := h
  obtain ⟨⟨x, S1⟩, e1, h1⟩ := Res.bind_ok h1
  refine ⟨G, env, S, x, S1, g, e1, fun x' H1 A1 p1 s1 r1 => ?_⟩
  dsimp only at h1
  split at h1
  · refine ⟨true, Rep.bl_iff.mp r1, ?_⟩
    rw [if_pos rfl]
    exact ⟨{ G with A := A1 }, env, S1, v, S', g.post p1 s1, h1, fun y H2 A2 p2 s2 r2 => q y H2 A2 (p1.trans p2) s2 r2⟩
  · cases h1
    refine ⟨false, Rep.bl_iff.mp r1, ?_⟩
    rw [if_neg falseNe]
    exact q _ H1 A1 p1 s1 (Rep.bl_iff.mpr rfl)
  · cases h1
theorem je_or (ha : JE ct X a fa) (hb : JE ct X (.BoolOp .Or (b :: rest) pos) fb) : JE ct X (.BoolOp .Or (a :: b :: rest) pos) (eOr fa fb) := by
  refine ⟨(pe_or ha.pe hb.pe).imp fun σ H Q h => ?_⟩
  obtain ⟨G, env, S, v, S', g, h1, q⟩ := h
  obtain ⟨⟨x, S1⟩, e1, h1⟩ := Res.bind_ok h1
  refine ⟨G, env, S, x, S1, g, e1, fun x' H1 A1 p1 s1 r1 => ?_⟩
  dsimp only at h1
  split at h1
  · cases h1
    refine ⟨true, Rep.bl_iff.mp r1, ?_⟩
    rw [if_pos rfl]
    exact q _ H1 A1 p1 s1 (Rep.bl_iff.mpr rfl)
  · refine ⟨false, Rep.bl_iff.mp r1, ?_⟩
    rw [if_neg falseNe]
    exact ⟨{ G with A := A1 }, env, S1, v, S', g.post p1 s1, h1, fun y H2 A2 p2 s2 r2 => q y H2 A2 (p1.trans p2) s2 r2⟩
  · cases h1
variable {ta tb : FT}
theorem jw_and1 (h : JT ct X a ta) : JW ct X (.BoolOp .And [a] pos) ta := ⟨pw_and1 h.pt⟩
theorem jw_or1 (h : JT ct X a ta) : JW ct X (.BoolOp .Or [a] pos) ta := ⟨pw_or1 h.pt⟩
theorem jw_and (ha : JT ct X a ta) (hb : JW ct X (.BoolOp .And (b :: rest) pos) tb) : JW ct X (.BoolOp .And (a :: b :: rest) pos) (tAn ta tb) := by
  refine ⟨(pw_and ha.pt hb.pw).imp fun σ H Q h => ?_⟩
  obtain ⟨G, env, S, v, S', g, h1, q⟩ := h
  obtain ⟨⟨x, S1⟩, e1, h1⟩ := Res.bind_ok h1
  refine ⟨G, env, S, x, S1, g, e1, fun H1 A1 p1 s1 => ?_⟩
  cases x with
  | true =>
    rw [if_pos rfl]
    exact ⟨{ G with A := A1 }, env, S1, v, S', g.post p1 s1, h1, fun H2 A2 p2 s2 => q H2 A2 (p1.trans p2) s2⟩
  | false =>
    cases h1
    rw [if_neg falseNe]
    exact q H1 A1 p1 s1
theorem jw_or (ha : JT ct X a ta) (hb : JW ct X (.BoolOp .Or (b :: rest) pos) tb) : JW ct X (.BoolOp .Or (a :: b :: rest) pos) (tOrr ta tb) := by
  refine ⟨(pw_or ha.pt hb.pw).imp fun σ H Q h => ?_⟩
  obtain ⟨G, env, S, v, S', g, h1, q⟩ := h
  obtain ⟨⟨x, S1⟩, e1, h1⟩ := Res.bind_ok h1
  refine ⟨G, env, S, x, S1, g, e1, fun H1 A1 p1 s1 => ?_⟩
  cases x with
  | true =>
    cases h1
    rw [if_pos rfl]
    exact q H1 A1 p1 s1
  | false =>
    rw [if_neg falseNe]
    exact ⟨{ G with A := A1 }, env, S1, v, S', g.post p1 s1, h1, fun H2 A2 p2 s2 => q H2 A2 (p1.trans p2) s2⟩
theorem jt_w (h : JW ct X e ta) : JT ct X e ta := ⟨h.pw.pt⟩
theorem jt_not (h : JT ct X a ta) : JT ct X (.UnaryOp .Not a pos) (tNo ta) := by
  refine ⟨(pt_not h.pt).imp fun σ H Q h => ?_⟩
  obtain ⟨G, env, S, v, S', g, h1, q⟩ := h
  obtain ⟨⟨x, S1⟩, e1, h1⟩ := Res.bind_ok h1
  cases h1
  exact ⟨G, env, S, x, _, g, e1, q⟩
theorem je_if {c : Expr} {tc : FT} (hc : JT ct X c tc) (ha : JE ct X a fa) (hb : JE ct X b fb) : JE ct X (.IfExp c a b pos) (eIf tc fa fb) := by
  refine ⟨(pe_ifExp hc.pt ha.pe hb.pe).imp fun σ H Q h => ?_⟩
  obtain ⟨G, env, S, v, S', g, h1, q⟩ := h
  obtain ⟨⟨x, S1⟩, e1, h1⟩ := Res.bind_ok h1
  refine ⟨G, env, S, x, S1, g, e1, fun H1 A1 p1 s1 => ?_⟩
  cases x with
  | true =>
    rw [if_pos rfl]
    exact ⟨{ G with A := A1 }, env, S1, v, S', g.post p1 s1, h1, fun y H2 A2 p2 s2 r2 => q y H2 A2 (p1.trans p2) s2 r2⟩
  | false =>
    rw [if_neg falseNe]
    exact ⟨{ G with A := A1 }, env, S1, v, S', g.post p1 s1, h1, fun y H2 A2 p2 s2 r2 => q y H2 A2 (p1.trans p2) s2 r2⟩
/-! ### arguments, displays -/
variable {es : List Expr} {fr : FA}
theorem ja_nil : JA ct X [] aNil := by
  refine ⟨pa_nil.imp fun σ H Q h => ?_⟩
  obtain ⟨G, env, S, v, S', g, h1, q⟩ := h
  cases h1
  exact q [] H G.A (Post.refl H g.bs.nodup) g.bs.sto .nil
theorem rdA_cons {K : PySem.W.Frag} {σ : St} {H : Hp} {Q : List V → Hp → Prop} (h : rdA K ct (aCons fa fr) σ H Q) : tCons (rd K ct fa) (rdA K ct fr) σ H Q := by
  obtain ⟨G, env, S, v, S', g, h1, q⟩ := h
  obtain ⟨⟨x, S1⟩, e1, h1⟩ := Res.bind_ok h1
  obtain ⟨⟨y, S2⟩, e2, h1⟩ := Res.bind_ok h1
  cases h1
  refine ⟨G, env, S, x, S1, g, e1, fun x' H1 A1 p1 s1 r1 => ⟨{ G with A := A1 }, env, S1, y, _, g.post p1 s1, e2, fun y' H2 A2 p2 s2 r2 => ?_⟩⟩
  exact q _ H2 A2 (p1.trans p2) s2 (.cons (r1.lat (p2.lat G.M) x x') r2)
theorem ja_cons (ha : JE ct X a fa) (hr : JA ct X es fr) (hs : starEach (a :: es) X.env = (false, eval a X.env) :: starEach es X.env := by rfl) : JA ct X (a :: es) (aCons fa fr) :=
  ⟨(pa_cons ha.pe hr.pa hs).imp fun _ _ _ h => rdA_cons h⟩
theorem jk_nil : JK ct X [] aNil := by
  refine ⟨pk_nil.imp fun σ H Q h => ?_⟩
  obtain ⟨G, env, S, v, S', g, h1, q⟩ := h
  cases h1
  exact q [] H G.A (Post.refl H g.bs.nodup) g.bs.sto .nil
theorem jk_cons {nm : Option Str} {kpos : Pos} {kws : List Keyword} (ha : JE ct X a fa) (hr : JK ct X kws fr) : JK ct X (⟨nm, a, kpos⟩ :: kws) (aCons fa fr) := ⟨(pk_cons ha.pe hr.pk).imp fun _ _ _ h => rdA_cons h⟩
def szV (xs : List PV) : Bool := decide (xs.length ≤ sizeLine)
def pTup (xs : List PV) : Option PV := if xs.length ≤ 1000000 then some (.tup xs) else none
def pLst (xs : List PV) : Option PV := if xs.length ≤ 1000000 then some (.lst xs) else none
theorem sz_mil {n : Nat} (h : n ≤ 1000000) : n ≤ sizeLine := Nat.le_trans h (by decide)
theorem je_tup {k} (h : JA ct X es fr) : JE ct X (.Tuple es k pos) (eB pTup fr) := by
  refine ⟨(pe_tup h.pa).imp fun σ H Q h => ?_⟩
  obtain ⟨G, env, S, v, S', g, h1, q⟩ := h
  obtain ⟨⟨x, S1⟩, e1, h1⟩ := Res.bind_ok h1
  obtain ⟨z, e3, h1⟩ := Res.bind_ok h1
  cases h1
  have e4 := ofO_ok e3
  unfold pTup at e4
  split at e4
  · rename_i hz
    cases e4
    refine ⟨G, env, S, x, _, g, e1, fun xs H1 A1 p1 s1 r1 => ⟨by rw [r1.length]; exact sz_mil hz, fun p np => ?_⟩⟩
    have g1 := g.post p1 s1
    exact q _ _ A1 (p1.trans (Post.grow g1.bs.nodup (same_new np))) (s1.grow g1.bs.nodup (same_new np)) (Rep.new_tup r1 np g1.inA g1.bs.inM g1.bs.nodup)
  · cases e4
theorem jf_je (h : JF ct X e fe) : JE ct X e fe := by
  refine ⟨⟨fun pins s σ H Q I hq => ?_⟩⟩
  obtain ⟨G, env, S, v, S', g, h1, q⟩ := hq
  have hQ : rdF X.K ct fe σ H (fun x H' => ∃ p A', x = .ref p ∧ Post G.A H A' H' ∧ H p = none ∧ p ∉ A' ∧ StoOk X.K ct H' A' (p :: G.M) S' ∧ Cont X.K ct H' A' (p :: G.M) p v) := ⟨G, env, S, v, S', g, h1, fun p H' A' k1 k2 k3 k4 k5 => ⟨p, A', rfl, k1, k2, k3, k4, k5⟩⟩
  refine thn (h.pe.run pins s σ H _ I hQ) fun u s1 ⟨x, H', I', rv, p, A', ex, pp, np, hA, s, c⟩ => ?_
  subst ex
  have hM : p ∉ G.M := fun z => g.bs.inM p z np
  have l : Lat A' (p :: G.M) H' A' G.M H' := lat_less fun a ha => List.mem_cons_of_mem _ ha
  have s0 := s.less (M' := G.M) fun a ha => List.mem_cons_of_mem _ ha
  cases v with
  | lst xs =>
    obtain ⟨vs, h2, h3⟩ := c
    refine ⟨.ref p, H', I', rv, q _ H' A' pp s0 ?_⟩
    simp only [Rep]
    exact ⟨p, vs, rfl, ⟨h2, hA, hM⟩, h3.lat l xs vs⟩
  | dic tt ks xs =>
    have lock : ∀ (u0 : HO), H' p = some u0 → Mut (some u0) → ∃ od, Inv X pins σ (upd H' p (.frz od u0)) s1 := fun u0 e mu => I'.lock e mu
    have lu : ∀ (o' : HO), Lat A' (p :: G.M) H' A' G.M (upd H' p o') := fun o' => (lat_upd (o := o') (.inr List.mem_cons_self)).trans (lat_less fun a ha => List.mem_cons_of_mem _ ha)
    have pu : ∀ (o' : HO), Post G.A H A' (upd H' p o') := fun o' => ⟨pp.pre, fun a o k1 k2 => by
      rw [upd_ne (fun z => by subst z; rw [np] at k1; cases k1)]; exact pp.ext a o k1 k2, pp.new, pp.nodup⟩
    have su : ∀ (o' : HO), StoOk X.K ct (upd H' p o') A' G.M S' := fun o' => ⟨s.len, fun n a us k1 k2 => by
      obtain ⟨ws, k3, k4⟩ := s.at' n a us k1 k2
      exact ⟨ws, by rw [upd_ne (fun z => hA (by rw [← z]; exact List.mem_of_getElem? k1))]; exact k3, k4.lat (lu o') us ws⟩⟩
    rcases c with ⟨ht, ws, h2, h3, h4⟩ | ⟨ht, ws, h2, h3, h4⟩
    · obtain ⟨od, I2⟩ := lock _ h2 trivial
      refine ⟨.ref p, _, I2, rv, q _ _ A' (pu _) (su _) ?_⟩
      simp only [Rep]
      exact ⟨p, rfl, .inl ⟨ht, ws, ⟨⟨od, upd_same⟩, hA, hM⟩, h3, h4.lat (lu _) xs _⟩⟩
    · obtain ⟨od, I2⟩ := lock _ h2 trivial
      refine ⟨.ref p, _, I2, rv, q _ _ A' (pu _) (su _) ?_⟩
      simp only [Rep]
      exact ⟨p, rfl, .inr ⟨ht, ws, ⟨⟨od, upd_same⟩, hA, hM⟩, h3, h4.lat (lu _) xs _⟩⟩
  | _ => exact False.elim c
/-- from a new object's place in a reading -/
theorem fresh_lst {K : PySem.W.Frag} {G : Gh} {σ : St} {env : Env} {H H1 : Hp} {S S1 : Sto} {A1 : List Addr} {xs : List PV} {vs : List V} (g : Good K ct G σ H env S) (p1 : Post G.A H A1 H1) (s1 : StoOk K ct H1 A1 G.M S1) (r1 : RepL K ct H1 A1 G.M xs vs) {p : Addr} (np : H1 p = none) :
    Post G.A H A1 (upd H1 p (.lst vs)) ∧ H p = none ∧ p ∉ A1 ∧ StoOk K ct (upd H1 p (.lst vs)) A1 (p :: G.M) S1 ∧ Cont K ct (upd H1 p (.lst vs)) A1 (p :: G.M) p (.lst xs) := by
  have g1 := g.post p1 s1
  have sm : Same H1 (upd H1 p (.lst vs)) := same_new np
  refine ⟨p1.trans (Post.grow g1.bs.nodup sm), ?_, fun z => g1.inA p z np, ?_, vs, upd_same, r1.lat (lat_hide np sm) xs vs⟩
  · cases e : H p with
    | none => rfl
    | some o =>
      by_cases ha : p ∈ G.A
      · exact absurd np (g1.inA p (p1.pre.subset ha))
      · rw [p1.ext p o e ha] at np; cases np
  · exact (g1.hide np sm (by rw [upd_same]; simp) (by rw [upd_same]; simp)).bs.sto
theorem jf_lst (h : JA ct X es fr) : JF ct X (.List es pos) (eB pLst fr) := by
  refine ⟨(pe_lst h.pa).imp fun σ H Q h => ?_⟩
  obtain ⟨G, env, S, v, S', g, h1, q⟩ := h
  obtain ⟨⟨x, S1⟩, e1, h1⟩ := Res.bind_ok h1
  obtain ⟨z, e3, h1⟩ := Res.bind_ok h1
  cases h1
  have e4 := ofO_ok e3
  unfold pLst at e4
  split at e4
  · rename_i hz
    cases e4
    refine ⟨G, env, S, x, _, g, e1, fun xs H1 A1 p1 s1 r1 => ⟨by rw [r1.length]; exact sz_mil hz, fun p np => ?_⟩⟩
    obtain ⟨k1, k2, k3, k4, k5⟩ := fresh_lst g p1 s1 r1 np
    exact q p _ A1 k1 k2 k3 k4 k5
  · cases e4

/-! ### built-ins by values -/
def CallOk (K : PySem.W.Frag) (ct : Ct) (r : List V → Hp → VK → Prop) (op : List PV → Option PV) : Prop := ∀ (H : Hp) (A M : List Addr) (xs : List V) (vs : List PV) (v : PV) (Q : VK), Hx A M H → RepL K ct H A M vs xs → op vs = some v →
  (∀ z H', Same H H' → Rep K ct H' A M v z → Q z H') → r xs H Q
/-- one that makes a new list -/
def FreshOk (K : PySem.W.Frag) (ct : Ct) (r : List V → Hp → VK → Prop) (op : List PV → Option PV) : Prop := ∀ (H : Hp) (A M : List Addr) (xs : List V) (vs : List PV) (v : PV) (Q : VK), Hx A M H → RepL K ct H A M vs xs → op vs = some v →
  (∀ p ys zs, H p = none → v = .lst ys → RepL K ct H A M ys zs → Q (.ref p) (upd H p (.lst zs))) → r xs H Q
theorem rd_callB {K : PySem.W.Frag} {op : List PV → Option PV} {r : List V → Hp → VK → Prop} (ho : CallOk K ct r op) {σ : St} {H : Hp} {Q : VK} (h : rd K ct (eB op fr) σ H Q) : tCB r (rdA K ct fr) σ H Q := by
  obtain ⟨G, env, S, v, S', g, h1, q⟩ := h
  obtain ⟨⟨x, S1⟩, e1, h1⟩ := Res.bind_ok h1
  obtain ⟨z, e3, h1⟩ := Res.bind_ok h1
  cases h1
  refine ⟨G, env, S, x, _, g, e1, fun xs H1 A1 p1 s1 r1 => ?_⟩
  have g1 := g.post p1 s1
  exact ho H1 A1 G.M xs x v Q g1.hx r1 (ofO_ok e3) fun z H2 sm r2 => q z H2 A1 (p1.trans (Post.grow g1.bs.nodup sm)) (s1.grow g1.bs.nodup sm) r2
theorem rdF_callB {K : PySem.W.Frag} {op : List PV → Option PV} {r : List V → Hp → VK → Prop} (ho : FreshOk K ct r op) {σ : St} {H : Hp} {Q : VK} (h : rdF K ct (eB op fr) σ H Q) : tCB r (rdA K ct fr) σ H Q := by
  obtain ⟨G, env, S, v, S', g, h1, q⟩ := h
  obtain ⟨⟨x, S1⟩, e1, h1⟩ := Res.bind_ok h1
  obtain ⟨z, e3, h1⟩ := Res.bind_ok h1
  cases h1
  refine ⟨G, env, S, x, _, g, e1, fun xs H1 A1 p1 s1 r1 => ?_⟩
  have g1 := g.post p1 s1
  refine ho H1 A1 G.M xs x v Q g1.hx r1 (ofO_ok e3) fun p ys zs np ev ry => ?_
  subst ev
  obtain ⟨k1, k2, k3, k4, k5⟩ := fresh_lst g p1 s1 ry np
  exact q p _ A1 k1 k2 k3 k4 k5
variable {x : Str} {p : Pos} {id : String} {r : List V → Hp → VK → Prop} {op : List PV → Option PV}
theorem je_callB (hc : CallR X (.builtin id) r) (ho : CallOk X.K ct r op) (hm : X.mg x = none) (ha : JA ct X (a :: es) fr) (hg : Gl X x := by rfl) (hv : bootBuiltins x = some (.builtin id) := by decide +kernel) (hn : x ≠ "__name__" := by decide) (hdb : (x == ("__debug__" : Str)) = false := by decide)
    (he : starEach (a :: es) X.env = (false, eval a X.env) :: starEach es X.env := by rfl) (hpl : (backTo pos (starEach es X.env)).any (·.1) = false := by rfl) : JE ct X (.Call (.Name x p) (a :: es) [] pos) (eB op fr) :=
  ⟨(pe_callB hc hg hm hv ha.pa hn hdb he hpl).imp fun _ _ _ h => rd_callB ho h⟩
theorem je_callT (hc : CallR X (.type id) r) (ho : CallOk X.K ct r op) (hm : X.mg x = none) (ha : JA ct X (a :: es) fr) (hg : Gl X x := by rfl) (hv : bootBuiltins x = some (.type id) := by decide +kernel) (hn : x ≠ "__name__" := by decide) (hdb : (x == ("__debug__" : Str)) = false := by decide)
    (he : starEach (a :: es) X.env = (false, eval a X.env) :: starEach es X.env := by rfl) (hpl : (backTo pos (starEach es X.env)).any (·.1) = false := by rfl) : JE ct X (.Call (.Name x p) (a :: es) [] pos) (eB op fr) :=
  ⟨(pe_callTy hc hg hm hv ha.pa hn hdb he hpl).imp fun _ _ _ h => rd_callB ho h⟩
theorem jf_callB (hc : CallR X (.builtin id) r) (ho : FreshOk X.K ct r op) (hm : X.mg x = none) (ha : JA ct X (a :: es) fr) (hg : Gl X x := by rfl) (hv : bootBuiltins x = some (.builtin id) := by decide +kernel) (hn : x ≠ "__name__" := by decide) (hdb : (x == ("__debug__" : Str)) = false := by decide)
    (he : starEach (a :: es) X.env = (false, eval a X.env) :: starEach es X.env := by rfl) (hpl : (backTo pos (starEach es X.env)).any (·.1) = false := by rfl) : JF ct X (.Call (.Name x p) (a :: es) [] pos) (eB op fr) :=
  ⟨(pe_callB hc hg hm hv ha.pa hn hdb he hpl).imp fun _ _ _ h => rdF_callB ho h⟩
theorem jf_callT (hc : CallR X (.type id) r) (ho : FreshOk X.K ct r op) (hm : X.mg x = none) (ha : JA ct X (a :: es) fr) (hg : Gl X x := by rfl) (hv : bootBuiltins x = some (.type id) := by decide +kernel) (hn : x ≠ "__name__" := by decide) (hdb : (x == ("__debug__" : Str)) = false := by decide)
    (he : starEach (a :: es) X.env = (false, eval a X.env) :: starEach es X.env := by rfl) (hpl : (backTo pos (starEach es X.env)).any (·.1) = false := by rfl) : JF ct X (.Call (.Name x p) (a :: es) [] pos) (eB op fr) :=
  ⟨(pe_callTy hc hg hm hv ha.pa hn hdb he hpl).imp fun _ _ _ h => rdF_callB ho h⟩
end
end J
set_option Elab.async false
set_option linter.all false
set_option maxRecDepth 100000
/-! J: statements, targets, loops, comprehensions. -/
namespace J
open PySem L2

section
variable {K : PySem.W.Frag} {ct : Ct}
theorem FlOk.later {G : Gh} {H H' : Hp} {A' M' : List Addr} {D : Ends} {fl : Fl} (l : Lat G.A G.M H A' M' H') (h : FlOk K ct G H D fl) : FlOk K ct { G with A := A', M := M' } H' D fl := by
  cases fl with
  | nx e S => exact fun σ1 H1 A1 M1 l1 g1 => h σ1 H1 A1 M1 (l.trans l1) g1
  | bk e S => exact fun σ1 H1 A1 M1 l1 g1 => h σ1 H1 A1 M1 (l.trans l1) g1
  | ct e S => exact fun σ1 H1 A1 M1 l1 g1 => h σ1 H1 A1 M1 (l.trans l1) g1
  | rt v S => exact h
theorem Good.post0 {G : Gh} {σ : St} {H : Hp} {env : Env} {S : Sto} (g : Good K ct G σ H env S) : Post G.A0 G.H0 G.A H := ⟨g.pre0, g.ext0, g.new0, g.bs.nodup⟩
end

section
variable {ct : Ct} {X : Cx} {st : Stmt} {rest : List Stmt} {f g : FS} {e : Expr} {fe : FE} {pos : Pos}
theorem js_never : JS ct X st sX := ⟨⟨fun _ _ _ _ _ _ h => by obtain ⟨_, _, _, _, _, h, _⟩ := h; cases h⟩⟩
theorem jss_never {sts : List Stmt} : JSs ct X sts sX := ⟨⟨fun _ _ _ _ _ _ h => by obtain ⟨_, _, _, _, _, h, _⟩ := h; cases h⟩⟩
theorem next_ok {K : PySem.W.Frag} {D : Ends} {σ : St} {H : Hp} (h : rdS K ct sNext D σ H) : D.nx σ H := by
  obtain ⟨G, env, S, fl, g, e, h⟩ := h
  cases e
  exact h σ H G.A G.M (Lat.refl _ _ _) g
theorem jss_nil : JSs ct X [] sNext := ⟨pss_nil.imp fun _ _ _ h => next_ok h⟩
theorem js_pass : JS ct X (.Pass pos) sNext := ⟨ps_pass.imp fun _ _ _ h => next_ok h⟩
theorem js_break : JS ct X (.Break pos) sBreak := ⟨ps_break.imp fun D σ H h => by
  obtain ⟨G, env, S, fl, g, e, h⟩ := h
  cases e
  exact h σ H G.A G.M (Lat.refl _ _ _) g⟩
theorem js_cont : JS ct X (.Continue pos) sCont := ⟨ps_continue.imp fun D σ H h => by
  obtain ⟨G, env, S, fl, g, e, h⟩ := h
  cases e
  exact h σ H G.A G.M (Lat.refl _ _ _) g⟩
theorem jss_cons (h1 : JS ct X st f) (h2 : JSs ct X rest g) : JSs ct X (st :: rest) (sSeq f g) := by
  refine ⟨(pss_cons h1.ps h2.ps).imp fun D σ H h => ?_⟩
  obtain ⟨G, env, S, fl, gd, e, h⟩ := h
  obtain ⟨r, e1, e2⟩ := Res.bind_ok e
  refine ⟨G, env, S, r, gd, e1, ?_⟩
  cases r with
  | nx en S1 => exact fun σ1 H1 A1 M1 l g1 => ⟨_, en, S1, fl, g1, e2, h.later l⟩
  | rt v S1 => cases e2; exact h
  | bk v S1 => cases e2; exact h
  | ct v S1 => cases e2; exact h
theorem jss_one (h1 : JS ct X st f) : JSs ct X [st] f := ⟨pss_one h1.ps⟩
theorem js_ret (he : JE ct X e fe) : JS ct X (.Return (some e) pos) (sRet fe) := by
  refine ⟨(ps_ret he.pe).imp fun D σ H h => ?_⟩
  obtain ⟨G, env, S, fl, gd, e, h⟩ := h
  obtain ⟨⟨x, S1⟩, e1, e2⟩ := Res.bind_ok e
  cases e2
  refine ⟨G, env, S, x, S1, gd, e1, fun y H1 A1 p s r => ?_⟩
  have g1 := gd.post p s
  exact h y H1 A1 g1.post0 (s.less g1.sub0) (r.lat (lat_less g1.sub0) x y)
theorem js_retN : JS ct X (.Return none pos) (sRet (eC .non)) := by
  refine ⟨ps_retN.imp fun D σ H h => ?_⟩
  obtain ⟨G, env, S, fl, gd, e, h⟩ := h
  cases e
  exact h _ H G.A gd.post0 (gd.bs.sto.less gd.sub0) (Rep.non_iff.mpr rfl)
theorem js_if {c : Expr} {a b : List Stmt} {tc : FT} (hc : JT ct X c tc) (ha : JSs ct X a f) (hb : JSs ct X b g) : JS ct X (.If c a b pos) (sIf tc f g) := by
  refine ⟨(ps_if hc.pt ha.ps hb.ps).imp fun D σ H h => ?_⟩
  obtain ⟨G, env, S, fl, gd, e, h⟩ := h
  obtain ⟨⟨x, S1⟩, e1, e2⟩ := Res.bind_ok e
  refine ⟨G, env, S, x, S1, gd, e1, fun H1 A1 p s => ?_⟩
  cases x with
  | true => rw [if_pos rfl]; exact ⟨_, env, S1, fl, gd.post p s, e2, h.later (p.lat G.M)⟩
  | false => rw [if_neg Bool.false_ne_true]; exact ⟨_, env, S1, fl, gd.post p s, e2, h.later (p.lat G.M)⟩
theorem js_expr (he : JE ct X e fe) (hs : swapsWith e none pos.line X.env = pure false := by rfl) : JS ct X (.Expr e pos) (sDrop fe) := by
  refine ⟨(ps_expr he.pe hs).imp fun D σ H h => ?_⟩
  obtain ⟨G, env, S, fl, gd, e, h⟩ := h
  obtain ⟨⟨x, S1⟩, e1, e2⟩ := Res.bind_ok e
  cases e2
  exact ⟨G, env, S, x, S1, gd, e1, fun y H1 A1 p s r => h σ H1 A1 G.M (p.lat G.M) (gd.post p s)⟩
/-- a name that owned is a plain value from here on -/
theorem Good.freezeAt {K : PySem.W.Frag} {G : Gh} {σ : St} {H H1 : Hp} {env : Env} {S : Sto} {i : Nat} {p : Addr} {v : PV} (g : Good K ct G σ H env S) (hv : env[i]? = some (.own v)) (h1 : σ[i]? = some (some (.ref p))) (hH : ∀ a, a ≠ p → H1 a = H a)
    (rep : Rep K ct H1 G.A (G.M.filter (fun a => decide (a ≠ p))) v (.ref p)) : Lat G.A G.M H G.A (G.M.filter (fun a => decide (a ≠ p))) H1 ∧ Good K ct { G with M := G.M.filter (fun a => decide (a ≠ p)) } σ H1 (env.set i (.val v)) S := by
  obtain ⟨p', k1, h2, h3, c⟩ := g.slot i _ hv
  rw [h1] at k1; cases k1
  have sub : ∀ a ∈ G.M.filter (fun a => decide (a ≠ p)), a ∈ G.M := fun a ha => (List.mem_filter.mp ha).1
  have l : Lat G.A G.M H G.A (G.M.filter (fun a => decide (a ≠ p))) H1 := ⟨List.prefix_refl _, fun b o e n m => ⟨by
    rw [hH b (fun z => by subst z; exact m h2)]; exact e, n, fun z => m (sub b z)⟩⟩
  refine ⟨l, ⟨⟨g.bs.sto.len, fun n a xs k1 k2 => ?_⟩, g.bs.nodup, fun a ha => ?_, fun a ha => g.bs.disj a (sub a ha), fun a ha vs ev => ?_⟩, fun j s hs => ?_, fun a b u w q k1 k2 k3 k4 => ?_, fun a o k1 k2 => ?_, g.pre0, g.new0, fun a ha => ?_, g.in0, by rw [List.length_set]; exact g.len⟩
  · obtain ⟨vs, k3, k4⟩ := g.bs.sto.at' n a xs k1 k2
    exact ⟨vs, by rw [hH a (fun z => g.bs.disj p h2 (by rw [← z]; exact List.mem_of_getElem? k1))]; exact k3, k4.lat l xs vs⟩
  · have hne : a ≠ p := by simpa using (List.mem_filter.mp ha).2
    rw [hH a hne]; exact g.bs.inM a (sub a ha)
  · have hne : a ≠ p := by simpa using (List.mem_filter.mp ha).2
    rw [hH a hne] at ev; exact g.bs.noT a (sub a ha) vs ev
  · rcases getSet hs with ⟨rfl, rfl, hi⟩ | ⟨hj, hs⟩
    · exact ⟨_, h1, rep⟩
    · have q := g.slot j s hs
      cases s with
      | un => trivial
      | val w => obtain ⟨y, k1, k2⟩ := q; exact ⟨y, k1, k2.lat l w y⟩
      | own w =>
        obtain ⟨p', k1, k2, k3, k4⟩ := q
        have hne : p' ≠ p := fun z => by subst z; exact hj (g.uniq i j _ _ _ hv hs h1 k1)
        exact ⟨p', k1, List.mem_filter.mpr ⟨k2, decide_eq_true hne⟩, k3, k4.lat l (hH p' hne)⟩
  · rcases getSet k1 with ⟨_, h, _⟩ | ⟨_, k1⟩
    · cases h
    · rcases getSet k2 with ⟨_, h, _⟩ | ⟨_, k2⟩
      · cases h
      · exact g.uniq a b u w q k1 k2 k3 k4
  · rw [hH a (fun z => by subst z; rw [h3] at k1; cases k1)]; exact g.ext0 a o k1 k2
  · refine List.mem_filter.mpr ⟨g.sub0 a ha, decide_eq_true fun z => ?_⟩
    subst z
    exact g.in0 a ha h3
theorem frz_run {i : Nat} {pins : List (Addr × Obj)} {s : Shared} {σ : St} {H : Hp} {G : Gh} {env : Env} {S : Sto} (I : Inv X pins σ H s) (g : Good X.K ct G σ H env S) :
    ∃ H1 M', Inv X pins σ H1 s ∧ Lat G.A G.M H G.A M' H1 ∧ Good X.K ct { G with M := M' } σ H1 (frz i env) S := by
  unfold frz
  split
  · rename_i v hv
    obtain ⟨p, h1, h2, h3, c⟩ := g.slot i _ hv
    have np : p ∉ G.M.filter (fun a => decide (a ≠ p)) := fun z => by simpa using (List.mem_filter.mp z).2
    have sub : ∀ a ∈ G.M.filter (fun a => decide (a ≠ p)), a ∈ G.M := fun a ha => (List.mem_filter.mp ha).1
    cases v with
    | lst xs =>
      obtain ⟨vs, k1, k2⟩ := c
      obtain ⟨l, g'⟩ := g.freezeAt hv h1 (H1 := H) (fun _ _ => rfl) (by
        simp only [Rep]
        exact ⟨p, vs, rfl, ⟨k1, g.bs.disj p h2, np⟩, k2.lat (lat_less sub) xs vs⟩)
      exact ⟨H, _, I, l, g'⟩
    | dic tt ks xs =>
      have lu : ∀ (o' : HO), Lat G.A G.M H G.A (G.M.filter (fun a => decide (a ≠ p))) (upd H p o') := fun o' => (lat_upd (o := o') (.inr h2)).trans (lat_less sub)
      rcases c with ⟨ht, ws, k1, k2, k3⟩ | ⟨ht, ws, k1, k2, k3⟩
      · obtain ⟨od, I2⟩ := I.lock k1 trivial
        obtain ⟨l, g'⟩ := g.freezeAt hv h1 (H1 := upd H p (.frz od (.dK ws))) (fun _ hn => upd_ne hn) (by
          simp only [Rep]
          exact ⟨p, rfl, .inl ⟨ht, ws, ⟨⟨od, upd_same⟩, g.bs.disj p h2, np⟩, k2, k3.lat (lu _) xs _⟩⟩)
        exact ⟨_, _, I2, l, g'⟩
      · obtain ⟨od, I2⟩ := I.lock k1 trivial
        obtain ⟨l, g'⟩ := g.freezeAt hv h1 (H1 := upd H p (.frz od (.dT ws))) (fun _ hn => upd_ne hn) (by
          simp only [Rep]
          exact ⟨p, rfl, .inr ⟨ht, ws, ⟨⟨od, upd_same⟩, g.bs.disj p h2, np⟩, k2, k3.lat (lu _) xs _⟩⟩)
        exact ⟨_, _, I2, l, g'⟩
    | _ => exact False.elim c
  · exact ⟨H, G.M, I, Lat.refl _ _ _, g⟩
theorem js_frz (i : Nat) (h : JS ct X st f) : JS ct X st (sFrz i f) := by
  refine ⟨⟨fun pins s σ H D I hq => ?_⟩⟩
  obtain ⟨G, env, S, fl, gd, e, hq⟩ := hq
  obtain ⟨H1, M', I1, l, g'⟩ := frz_run (i := i) I gd
  exact h.ps.run pins s σ H1 D I1 ⟨_, frz i env, S, fl, g', e, hq.later l⟩
theorem jss_frz (i : Nat) {sts : List Stmt} (h : JSs ct X sts f) : JSs ct X sts (sFrz i f) := by
  refine ⟨⟨fun pins s σ H D I hq => ?_⟩⟩
  obtain ⟨G, env, S, fl, gd, e, hq⟩ := hq
  obtain ⟨H1, M', I1, l, g'⟩ := frz_run (i := i) I gd
  exact h.ps.run pins s σ H1 D I1 ⟨_, frz i env, S, fl, g', e, hq.later l⟩

/-! ### names stored -/
theorem asg_set {K : PySem.W.Frag} {i : Nat} {D : Ends} {σ : St} {H : Hp} (h : rdS K ct (sSet i fe) D σ H) : tAsg (rd K ct fe) (gName i) D σ H := by
  obtain ⟨G, env, S, fl, gd, e, h⟩ := h
  obtain ⟨⟨x, S1⟩, e1, e2⟩ := Res.bind_ok e
  cases e2
  exact ⟨G, env, S, x, S1, gd, e1, fun y H1 A1 p s r => h _ H1 A1 G.M (p.lat G.M) ((gd.post p s).set r)⟩
theorem asg_own {K : PySem.W.Frag} {i : Nat} {D : Ends} {σ : St} {H : Hp} (h : rdS K ct (sOwn i fe) D σ H) : tAsg (rdF K ct fe) (gName i) D σ H := by
  obtain ⟨G, env, S, fl, gd, e, h⟩ := h
  obtain ⟨⟨x, S1⟩, e1, e2⟩ := Res.bind_ok e
  cases e2
  refine ⟨G, env, S, x, S1, gd, e1, fun p H1 A1 pp np nA s c => ?_⟩
  have s0 : StoOk K ct H1 A1 G.M S1 := s.less fun a ha => List.mem_cons_of_mem _ ha
  have g1 := gd.post pp s0
  obtain ⟨o, ho⟩ := c.there
  have lat : Lat G.A G.M H A1 (p :: G.M) H1 := ⟨pp.pre, fun b u eb n m => ⟨pp.ext b u eb n, pp.out eb n, fun zZ => by
    rcases List.mem_cons.mp zZ with zZ | zZ
    · subst zZ; rw [np] at eb; cases eb
    · exact m zZ⟩⟩
  have g2 : Good K ct { G with A := A1, M := p :: G.M } σ H1 env S1 := by
    refine ⟨⟨s, g1.bs.nodup, fun a ha => ?_, fun a ha => ?_, fun a ha vs ev => ?_⟩, fun j sl hs => ?_, gd.uniq, g1.ext0, g1.pre0, g1.new0, fun a ha => List.mem_cons_of_mem _ (gd.sub0 a ha), gd.in0, gd.len⟩
    · rcases List.mem_cons.mp ha with zZ | zZ
      · subst zZ; rw [ho]; simp
      · exact g1.bs.inM a zZ
    · rcases List.mem_cons.mp ha with zZ | zZ
      · subst zZ; exact nA
      · exact g1.bs.disj a zZ
    · rcases List.mem_cons.mp ha with zZ | zZ
      · subst zZ; exact c.noT vs ev
      · exact g1.bs.noT a zZ vs ev
    · have q := gd.slot j sl hs
      cases sl with
      | un => trivial
      | val w => obtain ⟨y, k1, k2⟩ := q; exact ⟨y, k1, k2.lat lat w y⟩
      | own w =>
        obtain ⟨p', k1, k2, k3, k4⟩ := q
        obtain ⟨o', ho'⟩ := k4.there
        exact ⟨p', k1, List.mem_cons_of_mem _ k2, k3, k4.lat lat ((pp.ext p' o' ho' (gd.bs.disj p' k2)).trans ho'.symm)⟩
  refine h _ H1 A1 (p :: G.M) lat (g2.setOwn List.mem_cons_self (gd.fresh0 np) c fun j w hj ho' hz => ?_)
  obtain ⟨p', k1, k2, k3, k4⟩ := gd.slot j _ ho'
  rw [hz] at k1; cases k1
  exact gd.bs.inM p k2 np
theorem js_set (i : Nat) {x : Str} {pos' : Pos} (hN : X.N.Nodup) (he : JE ct X e fe) (hi : X.N[i]? = some x := by rfl) (hx : Loc X.env.scope x := by first | exact Or.inl rfl | exact Or.inr rfl) (hs : swapsWith e (some (.Name x pos')) pos.line X.env = pure false := by rfl)
    (hf : X.fn x = true ∨ X.env.scope.names.lookup x = some .local := by first | exact .inl rfl | exact .inr rfl | assumption) : JS ct X (.Assign [.Name x pos'] e pos) (sSet i fe) := ⟨(ps_set hN hi hx he.pe hs hf).imp fun _ _ _ h => asg_set h⟩
theorem js_own (i : Nat) {x : Str} {pos' : Pos} (hN : X.N.Nodup) (he : JF ct X e fe) (hi : X.N[i]? = some x := by rfl) (hx : Loc X.env.scope x := by first | exact Or.inl rfl | exact Or.inr rfl) (hs : swapsWith e (some (.Name x pos')) pos.line X.env = pure false := by rfl)
    (hf : X.fn x = true ∨ X.env.scope.names.lookup x = some .local := by first | exact .inl rfl | exact .inr rfl | assumption) : JS ct X (.Assign [.Name x pos'] e pos) (sOwn i fe) := ⟨(ps_set hN hi hx he.pe hs hf).imp fun _ _ _ h => asg_own h⟩

end
/-! ### targets that are names -/
abbrev GN := PV → Env → Option Env
abbrev GNs := List PV → Env → Option Env
section
variable (K : PySem.W.Frag) (ct : Ct)
def rdN (ws : List Nat) (g : GN) : TG := fun x σ H Q => ∃ G env S v env', Good K ct G σ H env S ∧ Rep K ct H G.A G.M v x ∧ g v env = some env' ∧
  ∀ σ', (∀ j, j ∉ ws → σ'[j]? = σ[j]?) → σ'.length = σ.length → Good K ct G σ' H env' S → Q σ' H
def rdNs (ws : List Nat) (g : GNs) : TGs := fun x σ H Q => ∃ G env S v env', Good K ct G σ H env S ∧ RepL K ct H G.A G.M v x ∧ g v env = some env' ∧
  ∀ σ', (∀ j, j ∉ ws → σ'[j]? = σ[j]?) → σ'.length = σ.length → Good K ct G σ' H env' S → Q σ' H
end
structure JN (ct : Ct) (X : Cx) (tg : Expr) (ws : List Nat) (g : GN) : Prop where
  pg : PG X tg (rdN X.K ct ws g)
structure JNs (ct : Ct) (X : Cx) (tg : List Expr) (ws : List Nat) (g : GNs) : Prop where
  pg : PGs X tg (rdNs X.K ct ws g)
def gN (i : Nat) : GN := fun v env => some (env.set i (.val v))
def gNn : GNs := fun vs env => match vs with
  | [] => some env
  | _ => none
def gNc (a : GN) (r : GNs) : GNs := fun vs env => match vs with
  | v :: rs => (a v env).bind (r rs)
  | [] => none
def gT (n : Nat) (r : GNs) : GN := fun v env => match v with
  | .tup xs => if xs.length = n then r xs env else none
  | .lst xs => if xs.length = n then r xs env else none
  | _ => none
theorem _root_.L2.PG.imp {X : Cx} {e : Expr} {t t' : TG} (h : PG X e t) (i : ∀ x σ H Q, t' x σ H Q → t x σ H Q) : PG X e t' := ⟨fun pins s σ H v u Q I r q => h.run pins s σ H v u Q I r (i v σ H Q q)⟩
theorem _root_.L2.PGs.imp {X : Cx} {e : List Expr} {t t' : TGs} (h : PGs X e t) (i : ∀ x σ H Q, t' x σ H Q → t x σ H Q) : PGs X e t' := ⟨fun pins s σ H v u Q I r q => h.run pins s σ H v u Q I r (i v σ H Q q)⟩
theorem _root_.L2.PG.or {X : Cx} {e : Expr} {t t' : TG} (h : PG X e t) (h' : PG X e t') : PG X e (fun x σ H Q => t x σ H Q ∨ t' x σ H Q) := ⟨fun pins s σ H v u Q I r q => q.elim (h.run pins s σ H v u Q I r) (h'.run pins s σ H v u Q I r)⟩
section
variable {ct : Ct} {X : Cx} {e : Expr} {es : List Expr} {pos : Pos} {ws us : List Nat} {g : GN} {gs : GNs}
theorem jn_name (i : Nat) {x : Str} (hN : X.N.Nodup) (hi : X.N[i]? = some x := by rfl) (hx : Loc X.env.scope x := by first | exact Or.inl rfl | exact Or.inr rfl) (hf : X.fn x = true ∨ X.env.scope.names.lookup x = some .local := by first | exact .inl rfl | exact .inr rfl | assumption) : JN ct X (.Name x pos) [i] (gN i) := by
  refine ⟨(pg_name hN hi hx hf).imp fun v σ H Q h => ?_⟩
  obtain ⟨G, env, S, v, env', gd, r, e, q⟩ := h
  cases e
  exact q _ (fun j hj => List.getElem?_set_ne fun z => hj (by simp [z])) (List.length_set ..) (gd.set r)
theorem jns_nil : JNs ct X [] [] gNn := by
  refine ⟨pgs_nil.imp fun v σ H Q h => ?_⟩
  obtain ⟨G, env, S, vs, env', gd, r, e, q⟩ := h
  cases vs with
  | nil => cases e; exact ⟨RepL.nil_iff.mp r, q σ (fun _ _ => rfl) rfl gd⟩
  | cons _ _ => cases e
theorem jns_cons (h1 : JN ct X e ws g) (h2 : JNs ct X es us gs) (hs : (assignEach (e :: es) X.env).map (·.2) = assign e X.env :: (assignEach es X.env).map (·.2) := by rfl) : JNs ct X (e :: es) (ws ++ us) (gNc g gs) := by
  refine ⟨(pgs_cons h1.pg h2.pg hs).imp fun v σ H Q h => ?_⟩
  obtain ⟨G, env, S, vs, env', gd, r, e, q⟩ := h
  cases vs with
  | nil => cases e
  | cons p ps =>
    obtain ⟨x, xs, rfl, r1, r2⟩ := r.inv
    obtain ⟨en, e1, e2⟩ := Option.bind_eq_some_iff.mp e
    refine ⟨x, xs, rfl, G, env, S, p, en, gd, r1, e1, fun σ1 k1 l1 g1 => ⟨G, en, S, ps, env', g1, r2, e2, fun σ2 k2 l2 g2 => q σ2 (fun j hj => ?_) (l2.trans l1) g2⟩⟩
    rw [k2 j (fun z => hj (List.mem_append_right _ z)), k1 j (fun z => hj (List.mem_append_left _ z))]
theorem jn_tup {k n : Nat} (hc : X.calm = true) (h : JNs ct X es ws gs) (hn : (assignEach es X.env).length = n := by rfl) (hst : (assignEach es X.env).findIdx? (·.1) = none := by rfl) : JN ct X (.Tuple es k pos) ws (gT n gs) := by
  refine ⟨((pg_tup hc h.pg hn hst).or (pg_unl hc h.pg hn hst)).imp fun v σ H Q h => ?_⟩
  obtain ⟨G, env, S, vs, env', gd, r, e, q⟩ := h
  cases vs with
  | tup xs =>
    obtain ⟨a, ys, rfl, hq, ry⟩ := r.tup_inv
    unfold gT at e
    dsimp only at e
    split at e
    · rename_i hl
      exact .inl ⟨a, ys, rfl, hq.sqT, by rw [ry.length]; exact hl, G, env, S, xs, env', gd, ry, e, q⟩
    · cases e
  | lst xs =>
    obtain ⟨a, ys, rfl, hq, ry⟩ := r.lst_inv
    unfold gT at e
    dsimp only at e
    split at e
    · rename_i hl
      exact .inr ⟨a, ys, rfl, hq.sqL, by rw [ry.length]; exact hl, G, env, S, xs, env', gd, ry, e, q⟩
    · cases e
  | _ => cases e
end
def sAsg (a : FE) (g : GN) : FS := fun env S => (a env S).bind fun x => (ofO (g x.1 env)).bind fun e => .ok (.nx e x.2)
section
variable {ct : Ct} {X : Cx} {e tg : Expr} {fe : FE} {es : List Expr} {pos : Pos} {ws us : List Nat} {g : GN} {gs : GNs}
theorem js_asg (he : JE ct X e fe) (hg : JN ct X tg ws g) (hs : swapsWithSole [tg] e pos.line X.env = pure false := by rfl) (hw : swappedStores [tg] e X.env = pure none := by rfl)
    (h1 : (assignEach [tg] X.env).map (·.2) = [assign tg X.env] := by rfl) : JS ct X (.Assign [tg] e pos) (sAsg fe g) := by
  refine ⟨(ps_asg he.pe hg.pg hs hw h1).imp fun D σ H h => ?_⟩
  obtain ⟨G, env, S, fl, gd, e, h⟩ := h
  obtain ⟨⟨x, S1⟩, e1, e2⟩ := Res.bind_ok e
  obtain ⟨en, e3, e2⟩ := Res.bind_ok e2
  cases e2
  exact ⟨G, env, S, x, S1, gd, e1, fun y H1 A1 p s r => ⟨_, env, S1, x, en, gd.post p s, r, ofO_ok e3, fun σ' _ _ g' => h σ' H1 A1 G.M (p.lat G.M) g'⟩⟩
end
/-- a, b = x, y of plain local names -/
def sPar (i j : Nat) (a : FA) : FS := fun env S => (a env S).bind fun x => match x.1 with
  | [u, v] => .ok (.nx ((env.set i (.val u)).set j (.val v)) x.2)
  | _ => .err
def sPar3 (i j l : Nat) (a : FA) : FS := fun env S => (a env S).bind fun x => match x.1 with
  | [u, v, w] => .ok (.nx (((env.set i (.val u)).set j (.val v)).set l (.val w)) x.2)
  | _ => .err
section
variable {ct : Ct} {X : Cx} {a b : Expr} {fa : FA} {pos : Pos}
theorem js_par (i j : Nat) {x y : Str} {px py pt : Pos} {kt k2 pt2} (hN : X.N.Nodup) (ha : JA ct X [a, b] fa) (hc : X.calm = true := by rfl) (hi : X.N[i]? = some x := by rfl) (hj : X.N[j]? = some y := by rfl) (hij : i ≠ j := by decide)
    (hx : X.env.scope.names.lookup x = some .local := by rfl) (hy : X.env.scope.names.lookup y = some .local := by rfl)
    (hw : swappedStores [.Tuple [.Name x px, .Name y py] kt pt] (.Tuple [a, b] k2 pt2) X.env = pure (some [x, y]) := by rfl)
    (hsZ : swapsWithSole [.Tuple [.Name x px, .Name y py] kt pt] (.Tuple [a, b] k2 pt2) pos.line X.env = pure false := by rfl) :
    JS ct X (.Assign [.Tuple [.Name x px, .Name y py] kt pt] (.Tuple [a, b] k2 pt2) pos) (sPar i j fa) := by
  refine ⟨(ps_par hc hN hi hj hij hx hy ha.pa hw hsZ).imp fun D σ H h => ?_⟩
  obtain ⟨G, env, S, fl, gd, e, h⟩ := h
  obtain ⟨⟨vs, S1⟩, e1, e2⟩ := Res.bind_ok e
  dsimp only at e2
  split at e2
  · rename_i u v
    cases e2
    refine ⟨G, env, S, _, S1, gd, e1, fun xs H1 A1 p s r => ?_⟩
    obtain ⟨p1, p2, rfl, r1, r2⟩ := r.two
    exact ⟨p1, p2, rfl, h _ H1 A1 G.M (p.lat G.M) (((gd.post p s).set r1).set r2)⟩
  · cases e2
end
/-! ### loops -/
def forL (g : GN) (b : FS) : List PV → Env → Sto → Res Fl
  | [], env, S => .ok (.nx env S)
  | x :: r, env, S => (ofO (g x env)).bind fun e => (b e S).bind fun fl => match fl with
    | .nx e' S' => forL g b r e' S'
    | .ct e' S' => forL g b r e' S'
    | .bk e' S' => .ok (.nx e' S')
    | .rt v S' => .ok (.rt v S')
def sFor (it : FA) (g : GN) (b : FS) : FS := fun env S => (it env S).bind fun xs => forL g b xs.1 env xs.2
def whL (c : FT) (b : FS) : Nat → Env → Sto → Res Fl
  | 0, _, _ => .err
  | n + 1, env, S => (c env S).bind fun x => if x.1 then (b env x.2).bind fun fl => match fl with
      | .nx e' S' => whL c b n e' S'
      | .ct e' S' => whL c b n e' S'
      | .bk e' S' => .ok (.nx e' S')
      | .rt v S' => .ok (.rt v S')
    else .ok (.nx env x.2)
def sWh (n : Nat) (c : FT) (b : FS) : FS := fun env S => whL c b n env S
section
variable (K : PySem.W.Frag) (ct : Ct)
/-- an iterator that gives xs, whatever the loop does to what it owns or shares -/
def ItOk (J : It) (A M : List Addr) (H : Hp) (xs : List PV) : Prop := ∀ (A' M' : List Addr) (H' : Hp), Lat A M H A' M' H' → Hx A' M' H' →
  (∀ i, i < xs.length → J.go i H') ∧ J.stop xs.length H' ∧ ∀ i x H'', i < xs.length → J.yld i H' x H'' → Same H' H'' ∧ ∃ v, xs[i]? = some v ∧ Rep K ct H'' A' M' v x
def rdI (f : FA) : TI := fun σ H R => ∃ G env S v S', Good K ct G σ H env S ∧ f env S = .ok (v, S') ∧
  ∀ J H' A', Post G.A H A' H' → StoOk K ct H' A' G.M S' → ItOk K ct J A' G.M H' v → R J H'
end
structure JI (ct : Ct) (X : Cx) (tg iter : Expr) (f : FA) : Prop where
  pi : PI X tg iter (rdI X.K ct f)
theorem _root_.L2.PI.imp {X : Cx} {tg e : Expr} {t t' : TI} (h : PI X tg e t) (i : ∀ σ H Q, t' σ H Q → t σ H Q) : PI X tg e t' := ⟨fun pins s σ H Q I q => h.run pins s σ H Q I (i σ H Q q)⟩
theorem _root_.L2.PI.or {X : Cx} {tg e : Expr} {t t' : TI} (h : PI X tg e t) (h' : PI X tg e t') : PI X tg e (fun σ H Q => t σ H Q ∨ t' σ H Q) := ⟨fun pins s σ H Q I q => q.elim (h.run pins s σ H Q I) (h'.run pins s σ H Q I)⟩
theorem drop_cons {α : Type} {xs : List α} {i : Nat} {v : α} (h : xs[i]? = some v) : xs.drop i = v :: xs.drop (i + 1) := by
  obtain ⟨hi, rfl⟩ := List.getElem?_eq_some_iff.mp h
  exact List.drop_eq_getElem_cons hi
section
variable {ct : Ct} {X : Cx} {tg iter : Expr} {body : List Stmt} {it : FA} {g : GN} {ws : List Nat} {b : FS} {pos : Pos}
theorem js_for (hi : JI ct X tg iter it) (hg : JN ct X tg ws g) (hb : JSs ct X body b) (hc : X.calm = true := by rfl) (hp : PassesOwn (model X.prog X.w) X.A X.env X.xe := by exact PassesOwn.never)
    (hs : ∀ x, foldedSetIterable iter X.env x = pure x := by intro _; rfl) : JS ct X (.For tg iter body [] pos) (sFor it g b) := by
  refine ⟨(ps_for hp hc hi.pi hg.pg hb.ps hs).imp fun D σ H h => ?_⟩
  obtain ⟨G, env, S, fl, gd, e, h⟩ := h
  obtain ⟨⟨xs, S1⟩, e1, e2⟩ := Res.bind_ok e
  refine ⟨G, env, S, xs, S1, gd, e1, fun J H1 A1 p s io => ?_⟩
  refine ⟨fun i m σ H => m = xs.length - i ∧ i ≤ xs.length ∧ ∃ A' M' env' S', Lat A1 G.M H1 A' M' H ∧ Good X.K ct { G with A := A', M := M' } σ H env' S' ∧ forL g b (xs.drop i) env' S' = .ok fl,
    ⟨xs.length, by simp, Nat.zero_le _, A1, G.M, env, S1, Lat.refl _ _ _, gd.post p s, by simpa using e2⟩, ?_⟩
  rintro i m σ2 H2 ⟨rfl, hi2, A2, M2, env2, S2, l2, g2, e2⟩
  obtain ⟨go, stop, yl⟩ := io A2 M2 H2 l2 g2.hx
  by_cases hlt : i < xs.length
  · refine .inr ⟨go i hlt, fun σ' H' => i + 1 ≤ xs.length ∧ ∃ A' M' env' S', Lat A1 G.M H1 A' M' H' ∧ Good X.K ct { G with A := A', M := M' } σ' H' env' S' ∧ forL g b (xs.drop (i + 1)) env' S' = .ok fl, fun σ' H' q => ⟨xs.length - (i + 1), by omega, rfl, q⟩, fun x H3 hy => ?_⟩
    obtain ⟨sm, v, hv, rv⟩ := yl i x H3 hlt hy
    rw [drop_cons hv] at e2
    obtain ⟨en, e3, e2⟩ := Res.bind_ok e2
    obtain ⟨fl3, e4, e2⟩ := Res.bind_ok e2
    have g3 := g2.grow sm
    refine ⟨_, env2, S2, v, en, g3, rv, ofO_ok e3, fun σ4 _ _ g4 => ⟨_, en, S2, fl3, g4, e4, ?_⟩⟩
    have l3 : Lat A1 G.M H1 A2 M2 H3 := l2.trans ((Post.grow g2.bs.nodup sm).lat M2)
    cases fl3 with
    | nx e' S' => exact fun σ5 H5 A5 M5 l5 g5 => ⟨hlt, A5, M5, e', S', l3.trans l5, g5, e2⟩
    | ct e' S' => exact fun σ5 H5 A5 M5 l5 g5 => ⟨hlt, A5, M5, e', S', l3.trans l5, g5, e2⟩
    | bk e' S' =>
      cases e2
      exact fun σ5 H5 A5 M5 l5 g5 => h σ5 H5 A5 M5 ((p.lat G.M).trans (l3.trans l5)) g5
    | rt v S' => cases e2; exact h
  · have hn : i = xs.length := by omega
    subst hn
    rw [List.drop_length] at e2
    cases e2
    exact .inl ⟨stop, h σ2 H2 A2 M2 ((p.lat G.M).trans l2) g2⟩
theorem js_while (n : Nat) {c : Expr} {tc : FT} (hc : JT ct X c tc) (hb : JSs ct X body b) (hp : PassesOwn (model X.prog X.w) X.A X.env X.xe := by exact PassesOwn.never) : JS ct X (.While c body [] pos) (sWh n tc b) := by
  refine ⟨(ps_while hp hc.pt hb.ps).imp fun D σ H h => ?_⟩
  obtain ⟨G, env, S, fl, gd, e, h⟩ := h
  refine ⟨fun m σ' H' => ∃ A' M' env' S', Lat G.A G.M H A' M' H' ∧ Good X.K ct { G with A := A', M := M' } σ' H' env' S' ∧ whL tc b m env' S' = .ok fl, ⟨n, G.A, G.M, env, S, Lat.refl _ _ _, gd, e⟩, ?_⟩
  rintro m σ2 H2 ⟨A2, M2, env2, S2, l2, g2, e2⟩
  cases m with
  | zero => cases e2
  | succ m =>
    obtain ⟨⟨x, S3⟩, e3, e2⟩ := Res.bind_ok e2
    refine ⟨_, env2, S2, x, S3, g2, e3, fun H3 A3 p3 s3 => ?_⟩
    have l3 : Lat G.A G.M H A3 M2 H3 := l2.trans (p3.lat M2)
    cases x with
    | true =>
      dsimp only at e2 ⊢
      rw [if_pos rfl] at e2 ⊢
      obtain ⟨fl3, e4, e2⟩ := Res.bind_ok e2
      refine ⟨fun σ' H' => ∃ A' M' env' S', Lat G.A G.M H A' M' H' ∧ Good X.K ct { G with A := A', M := M' } σ' H' env' S' ∧ whL tc b m env' S' = .ok fl, fun σ' H' q => ⟨m, Nat.lt_succ_self m, q⟩, _, env2, S3, fl3, g2.post p3 s3, e4, ?_⟩
      cases fl3 with
      | nx e' S' => exact fun σ5 H5 A5 M5 l5 g5 => ⟨A5, M5, e', S', l3.trans l5, g5, e2⟩
      | ct e' S' => exact fun σ5 H5 A5 M5 l5 g5 => ⟨A5, M5, e', S', l3.trans l5, g5, e2⟩
      | bk e' S' =>
        cases e2
        exact fun σ5 H5 A5 M5 l5 g5 => h σ5 H5 A5 M5 (l3.trans l5) g5
      | rt v S' => cases e2; exact h
    | false =>
      dsimp only at e2 ⊢
      rw [if_neg Bool.false_ne_true] at e2 ⊢
      cases e2
      exact h σ2 H3 A3 M2 l3 (g2.post p3 s3)
end
end J
set_option Elab.async false
set_option linter.all false
set_option maxRecDepth 100000
/-! enumerate over a tuple, for the layer's loops. -/
namespace J
open PySem L2
set_option maxHeartbeats 1100000 in
theorem meets_enumB {v : Value} {o : Obj} {H : Heap → Prop} (B : Begins v o H) :
    Meets (Builtin.«enumerate.__new__» ⟨[.type "enumerate", v], []⟩) (fun _ R s => H s.heap ∧
      R (.ok (.ret (.ref (s.heap.push o).objs.size))) { s with heap := (s.heap.push o).push ⟨.type "enumerate", none, .fields #[.none, .bool false, .ref s.heap.objs.size, rawInt 0, .none, .none], #[]⟩ }) :=
  .of_wp fun progZ w A R s h => by
    obtain ⟨hpZ, g, d, tk, os⟩ := s
    obtain ⟨h1, h⟩ := h
    have hsub := sub_enumerate
    have q1 : ∀ {A' : Around} {E : Value → Shared → Prop} {Q : Value → Shared → Prop}, Q (.ref hpZ.objs.size) ⟨hpZ.push o, g, d, tk, os⟩ → wpAny (model progZ w) A' (pyIter v) Q E ⟨hpZ, g, d, tk, os⟩ :=
      fun q => B.iter progZ w _ _ ⟨hpZ, g, d, tk, os⟩ _ h1 q
    wp_walk using q1
    refine wpAny_stack_any fun stZ => wpAny_pure ?_
    split
    · rename_i cZ _ _ _ _ _
      cases (cZ == Value.type "enumerate")
      · wp_walk using q1; exact ⟨_, rfl, h⟩
      · wp_walk using q1; exact ⟨_, rfl, h⟩
    · wp_walk using q1; exact ⟨_, rfl, h⟩
theorem call_enumB {prog : Program} {w : World} {A : Around} {E : Value → Shared → Prop} {s : Shared} {v : Value} {o : Obj} {H : Heap → Prop} {Q : Value → Shared → Prop} (B : Begins v o H) (h1 : H s.heap)
    (h : ∀ h', IsEnum h' (s.heap.objs.size + 1) s.heap.objs.size 0 .none → h'.get? s.heap.objs.size = some o → (∀ b u, s.heap.get? b = some u → h'.get? b = some u) → Q (.ref (s.heap.objs.size + 1)) { s with heap := h' }) :
    wpAny (model prog w) A (call (.type "enumerate") [v]) Q E s := by
  refine callType_new F.called_enumerate (by decide) (F.typeCall_enumerate_1 _) (F.newCall_enumerate_1 _) (fun obj => F.args_object_init_2 obj _) F.entry_enumerate_new (meets_enumB B) ⟨h1, ?_⟩
  have hzZ : (s.heap.push o).objs.size = s.heap.objs.size + 1 := Heap.size_push ..
  show _ ∧ _
  rw [hzZ]
  have he : IsEnum ((s.heap.push o).push ⟨.type "enumerate", none, .fields #[.none, .bool false, .ref s.heap.objs.size, rawInt 0, .none, .none], #[]⟩) (s.heap.objs.size + 1) s.heap.objs.size 0 .none := by
    have q := Heap.get?_push_size (s.heap.push o) (o := ⟨.type "enumerate", none, .fields #[.none, .bool false, .ref s.heap.objs.size, rawInt 0, .none, .none], #[]⟩) rfl
    rw [hzZ] at q
    exact q
  exact ⟨⟨_, he, rfl⟩, h _ he (Heap.get?_push_of_some _ (Heap.get?_push_size _ B.free)) fun b u x => Heap.get?_push_of_some _ (Heap.get?_push_of_some _ x)⟩
def IteT (K : PySem.W.Frag) (a : Addr) : It where
  go := fun i H => ∃ (xs : List V) (x : V), SqT K H a xs ∧ xs[i]? = some x
  yld := fun i H v H' => ∃ T x, v = .ref T ∧ H T = none ∧ H' = upd H T (.tup [.int (i : Nat), x]) ∧ ∀ xs, SqT K H a xs → xs[i]? = some x
  stop := fun i H => ∃ xs : List V, SqT K H a xs ∧ xs.length = i
theorem turn_enumT {P : Program} {w : World} {K : PySem.W.Frag} {elts : List Expr} {kk : Nat} {tpos : Pos} (a e it : Addr) :
    Turn P w K (.Tuple elts kk tpos) (IteT K a) [e, it] e (fun i h => (∃ old, IsEnum h e it ((i : Nat) : Int) old) ∧ h.IsTupleIter it a i ∧ e ≠ it ∧ a ≠ it ∧ e ≠ a) where
  mem := by simp
  obj := fun i h st b hb => by
    obtain ⟨⟨old, heZ⟩, ⟨o, ho, hc, hd⟩, _⟩ := st
    have eZ' : b = e ∨ b = it := by simpa using hb
    rcases eZ' with zZ | zZ
    · rw [zZ]; exact ⟨_, heZ, fun v q => nomatch q⟩
    · rw [zZ]; exact ⟨o, ho, fun v q => by rw [hd] at q; cases q⟩
  keep := fun i h h' st k => let ⟨⟨old, heZ⟩, hi, hne⟩ := st; ⟨⟨old, k e (by simp) _ heZ⟩, hi.at fun o q => k it (by simp) o q, hne⟩
  item := by
    intro XZ hP hw hK hc i pins s σ H E I hf st hg
    subst hP hw hK
    obtain ⟨⟨old, heZ⟩, hit, hne, hai, hea⟩ := st
    obtain ⟨xs, x, hq, hx⟩ := hg
    obtain ⟨itsZ, rv, p, hz⟩ := I.tuple hq
    obtain ⟨uZ, hu, ru⟩ := rv.get hx
    have hel : e < s.heap.objs.size := Heap.lt_size heZ
    have hilZ : it < s.heap.objs.size := by obtain ⟨_, q, _⟩ := hit; exact Heap.lt_size q
    have hD := Draws.tuple (prog := XZ.prog) (w := XZ.w) (A := XZ.A.in1) (I.ok.hd hc) it a hai itsZ.toArray
    have hlt : i < itsZ.toArray.size := by simpa using (List.getElem?_eq_some_iff.mp hu).1
    refine wpAny_pyNext_enum_itemD hD heZ ⟨hit, p⟩ hlt hne (by simp [hne, hea]) fun y h' tk hy ho hit' hT hsz hk => ?_
    have hyu : y = uZ := by
      rw [List.getElem?_toArray, hu] at hy
      exact (Option.some.inj hy).symm
    subst hyu
    refine ⟨_, rfl, wpAny_letOwnedTupleGo_enum (s := { s with heap := h', toks := tk + 1 }) ho fun h'' he' sb => ?_⟩
    have hT2 : h''.get? s.heap.objs.size = some ⟨.type "tuple", none, .seq #[.int i tk, y] 0, #[]⟩ := (sb.2 _ (Nat.ne_of_gt hel)).trans hT
    have new : ObjOk XZ.prog XZ.w (upd H s.heap.objs.size (.tup [.int (i : Nat), x])) h'' s.heap.objs.size (.tup [.int (i : Nat), x]) :=
      ⟨by show 2 ≤ sizeLine; decide, [.int i tk, y], .cons ⟨_, rfl⟩ (.cons ru .nil), ⟨_, hT2, rfl, _, rfl⟩⟩
    have I1 : Inv XZ pins σ (upd H s.heap.objs.size (.tup [.int (i : Nat), x])) { s with heap := h'', toks := tk + 1 } :=
      I.turnedNew (ch := [e, it]) (fun b ob hb q => (sb.2 b (fun zZ => hb (by simp [zZ]))).trans (hk b ob (fun zZ => hb (by simp [zZ])) (fun zZ => hb (by simp [zZ])) q)) hf (Nat.le_refl _) new
    refine ⟨.ref s.heap.objs.size, _, I1, rfl, ⟨_, x, rfl, I.hok.fresh (Nat.le_refl _), rfl, fun ys hy => by rw [I.tuple_inj hy hq]; exact hx⟩, ⟨⟨y, ?_⟩, hit'.1.at fun o q => (sb.2 it (Ne.symm hne)).trans q, hne, hai, hea⟩, fun b hb => ?_⟩
    · have e1Z : ((i + 1 : Nat) : Int) = (i : Int) + 1 := by omega
      rw [e1Z]; exact he'
    · have hbZ' : b < s.heap.objs.size := by
        have eZ' : b = e ∨ b = it := by simpa using hb
        rcases eZ' with zZ | zZ
        · rw [zZ]; exact hel
        · rw [zZ]; exact hilZ
      rw [upd_ne (Nat.ne_of_lt hbZ')]
      exact (hf b hb).1
  done := by
    intro XZ hP hw hK hc i pins s σ H E I hf st hg
    subst hP hw hK
    obtain ⟨⟨old, heZ⟩, hit, hne, hai, hea⟩ := st
    obtain ⟨xs, hq, hx⟩ := hg
    obtain ⟨itsZ, rv, p, hz⟩ := I.tuple hq
    obtain ⟨f0Z, f1, f2, f3, f4, f5⟩ := hf it (by simp)
    have hl := rv.length
    have hD := Draws.tuple (prog := XZ.prog) (w := XZ.w) (A := XZ.A.in1) (I.ok.hd hc) it a hai itsZ.toArray
    have hn : itsZ.toArray.size = i := by simp; omega
    refine wpAny_pyNext_enum_endD hD heZ (by rw [hn]; exact ⟨hit, p⟩) fun h' eb => ⟨rfl, I.turned (t' := s.toks) (fun b o hb q => eb b o hb q) f0Z f1 f3 f4 f5⟩
  self := fun A i s Q E st h => let ⟨⟨_, heZ⟩, _⟩ := st; wpAny_pyIter_enum heZ h
def iEnumT (K : PySem.W.Frag) (ta : TA) : TI := fun σ H R => ta σ H fun vs H1 => ∃ a xs, vs = [.ref a] ∧ SqT K H1 a xs ∧ R (IteT K a) H1
theorem pi_enumT {X : Cx} {e : Expr} {ta : TA} {p pos tpos : Pos} {elts : List Expr} {kk : Nat} (hg : Gl X "enumerate") (hm : X.mg "enumerate" = none) (ha : PA X [e] ta) (hs : starEach [e] X.env = [(false, eval e X.env)] := by rfl) :
    PI X (.Tuple elts kk tpos) (.Call (.Name "enumerate" p) [e] [] pos) (iEnumT X.K ta) := by
  refine ⟨fun pinsZ s σ H R I h => ?_⟩
  refine PyProof.Rows.Call_ (ld_blt I hg hm PyProof.Rows.boot_enumerate (PyProof.Rows.callWith_type1 (thn (ha.run pos pinsZ s σ H _ I h) fun us s1 ⟨vs, H1, I1, r1, q1⟩ => ?_) hs rfl))
  obtain ⟨aZ, xs, ex, hq, q⟩ := q1
  subst ex
  cases r1 with
  | cons r rr =>
    cases rr
    cases r
    obtain ⟨its, rv, p', hz⟩ := I1.tuple hq
    have hal : aZ < s1.heap.objs.size := p'.lt
    refine call_enumB (begins_tuple aZ its.toArray) p' fun h' he hit hk => wpAny_pyIter_enum he ?_
    have I2 : Inv X pinsZ σ H1 { s1 with heap := h' } := I1.kept (t' := s1.toks) hk
    refine ⟨s1.heap.objs.size + 1, [s1.heap.objs.size + 1, s1.heap.objs.size], _, _, H1, rfl, I2, turn_enumT aZ (s1.heap.objs.size + 1) s1.heap.objs.size, ⟨⟨.none, he⟩, ⟨_, hit, rfl, rfl⟩, Nat.succ_ne_self _, Nat.ne_of_lt hal, Nat.ne_of_gt (Nat.lt_succ_of_lt hal)⟩, fun b hb => ?_, q⟩
    have eZ' : b = s1.heap.objs.size + 1 ∨ b = s1.heap.objs.size := by simpa using hb
    have hleZ : s1.heap.objs.size ≤ b := by
      rcases eZ' with zZ | zZ
      · rw [zZ]; exact Nat.le_add_right _ _
      · rw [zZ]; exact Nat.le_refl _
    exact I1.fpOk hleZ (I1.hok.fresh hleZ)
end J
set_option Elab.async false
set_option linter.all false
set_option maxRecDepth 100000
/-! J: what is walked; comprehensions. -/
namespace J
open PySem L2

def iSeq (f : FE) : FA := fun env S => (f env S).bind fun x => match x.1 with
  | .lst xs => .ok (xs, x.2)
  | .tup xs => .ok (xs, x.2)
  | .scr ns => .ok (ns.map PV.int, x.2)
  | _ => .err
def rangeP (lo : Int) (n : Nat) : List PV := (List.range n).map fun (i : Nat) => PV.int (lo + (i : Int))
def bdI (i : Int) : Bool := decide (-(2 ^ 62) ≤ i) && decide (i < 2 ^ 62)
def iR1 (f : FA) : FA := fun env S => (f env S).bind fun x => match x.1 with
  | [.int j] => if bdI j then .ok (rangeP 0 j.toNat, x.2) else .err
  | _ => .err
def iR2 (f : FA) : FA := fun env S => (f env S).bind fun x => match x.1 with
  | [.int i, .int j] => if bdI i && bdI j then .ok (rangeP i (j - i).toNat, x.2) else .err
  | _ => .err
def rangeD (lo : Int) (n : Nat) : List PV := (List.range n).map fun (i : Nat) => PV.int (lo - (i : Int))
/-- range(i, j, -1) -/
def iR3 (f : FA) : FA := fun env S => (f env S).bind fun x => match x.1 with
  | [.int i, .int j, .int c] => if c = -1 ∧ bdI i = true ∧ bdI j = true then .ok (rangeD i (i - j).toNat, x.2) else .err
  | _ => .err
def enumP : Nat → List PV → List PV
  | _, [] => []
  | n, x :: r => .tup [.int (n : Int), x] :: enumP (n + 1) r
def zipP : List PV → List PV → List PV
  | x :: r, y :: s => .tup [x, y] :: zipP r s
  | _, _ => []
def iEn (f : FA) : FA := fun env S => (f env S).bind fun x => match x.1 with
  | [.lst xs] => .ok (enumP 0 xs, x.2)
  | [.tup xs] => .ok (enumP 0 xs, x.2)
  | _ => .err
def iZp (f : FA) : FA := fun env S => (f env S).bind fun x => match x.1 with
  | [.lst xs, .lst ys] => .ok (zipP xs ys, x.2)
  | [.tup xs, .tup ys] => .ok (zipP xs ys, x.2)
  | _ => .err
theorem enumP_length : ∀ (n : Nat) (xs : List PV), (enumP n xs).length = xs.length
  | _, [] => rfl
  | n, x :: r => by rw [enumP, List.length_cons, List.length_cons, enumP_length (n + 1) r]
theorem enumP_get : ∀ (n : Nat) (xs : List PV) (i : Nat), (enumP n xs)[i]? = (xs[i]?).map fun x => .tup [.int ((n + i : Nat) : Int), x]
  | _, [], i => by simp [enumP]
  | n, x :: r, 0 => by simp [enumP]
  | n, x :: r, i + 1 => by
    rw [enumP, List.getElem?_cons_succ, List.getElem?_cons_succ, enumP_get (n + 1) r i]
    have e : n + 1 + i = n + (i + 1) := by omega
    rw [e]
theorem zipP_length : ∀ (xs ys : List PV), (zipP xs ys).length = min xs.length ys.length
  | [], ys => by simp [zipP]
  | x :: r, [] => by simp [zipP]
  | x :: r, y :: s => by rw [zipP, List.length_cons, List.length_cons, List.length_cons, zipP_length r s]; omega
theorem zipP_get : ∀ (xs ys : List PV) (i : Nat) (x y : PV), xs[i]? = some x → ys[i]? = some y → (zipP xs ys)[i]? = some (.tup [x, y])
  | [], ys, i, x, y, h, _ => by simp at h
  | a :: r, [], i, x, y, _, h => by simp at h
  | a :: r, b :: s, 0, x, y, h1, h2 => by
    cases h1; cases h2; rfl
  | a :: r, b :: s, i + 1, x, y, h1, h2 => zipP_get r s i x y h1 h2
section
variable {K : PySem.W.Frag} {ct : Ct} {A M : List Addr} {H : Hp}
theorem it_list {a : Addr} {xs : List PV} {vs : List V} (h : Vw H A M a (.lst vs)) (r : RepL K ct H A M xs vs) : ItOk K ct (Itl K a) A M H xs := fun A' M' H' l hx => by
  have q : SqL K H' a vs := (h.lat l).sqL
  have r' := r.lat l xs vs
  have hl := r.length
  have w := walk_list (K := K) (a := a) (xs := vs)
  refine ⟨fun i hi => w.goes i H' (by omega) q, ?_, fun i x H'' hi y => ?_⟩
  · rw [← hl]; exact w.stops H' q
  · obtain ⟨e, y'⟩ := w.yields i H' x H'' (by omega) q y
    subst e
    exact ⟨Same.refl _, r'.getV y'⟩
theorem it_tup {a : Addr} {xs : List PV} {vs : List V} (h : Vw H A M a (.tup vs)) (r : RepL K ct H A M xs vs) : ItOk K ct (Itt K a) A M H xs := fun A' M' H' l hx => by
  have q : SqT K H' a vs := (h.lat l).sqT
  have r' := r.lat l xs vs
  have hl := r.length
  have w := walk_tup (K := K) (a := a) (xs := vs)
  refine ⟨fun i hi => w.goes i H' (by omega) q, ?_, fun i x H'' hi y => ?_⟩
  · rw [← hl]; exact w.stops H' q
  · obtain ⟨e, y'⟩ := w.yields i H' x H'' (by omega) q y
    subst e
    exact ⟨Same.refl _, r'.getV y'⟩
theorem it_scr {a : Addr} {ns : List Int} (h : VwR H A M a (.lst (ns.map V.int)) ∨ SqL K H00 a (ns.map V.int)) : ItOk K ct (Itl K a) A M H (ns.map PV.int) := fun A' M' H' l hx => by
  have q : SqL K H' a (ns.map V.int) := sq_scr (h.imp (VwR.lat l) id : VwR H' A' M' a (.lst (ns.map V.int)) ∨ _)
  have w := walk_list (K := K) (a := a) (xs := ns.map V.int)
  have hl : (ns.map V.int).length = (ns.map PV.int).length := by simp
  refine ⟨fun i hi => w.goes i H' (by omega) q, ?_, fun i x H'' hi y => ?_⟩
  · rw [← hl]; exact w.stops H' q
  · obtain ⟨e, y'⟩ := w.yields i H' x H'' (by omega) q y
    subst e
    exact ⟨Same.refl _, (RepL.of_ints ns).getV y'⟩
theorem pair_rep {H' H'' : Hp} {A' M' : List Addr} {T : Addr} {x y : V} {p q : PV} (hx : Hx A' M' H') (np : H' T = none) (rp : Rep K ct H' A' M' p x) (rq : Rep K ct H' A' M' q y) (e : H'' = upd H' T (.tup [x, y])) : Same H' H'' ∧ Rep K ct H'' A' M' (.tup [p, q]) (.ref T) := by
  subst e
  exact ⟨same_new np, Rep.new_tup (.cons rp (.cons rq .nil)) np hx.inA hx.inM hx.nd⟩
theorem it_enumL {a : Addr} {xs : List PV} {vs : List V} (h : Vw H A M a (.lst vs)) (r : RepL K ct H A M xs vs) : ItOk K ct (Ite K a) A M H (enumP 0 xs) := fun A' M' H' l hx => by
  have q : SqL K H' a vs := (h.lat l).sqL
  have r' := r.lat l xs vs
  have hl := r.length
  have w := walk_enum (K := K) (a := a) (xs := vs)
  rw [enumP_length]
  refine ⟨fun i hi => w.goes i H' (by omega) q, ?_, fun i x H'' hi y => ?_⟩
  · rw [← hl]; exact w.stops H' q
  · obtain ⟨T, u, z, e1, e2, e3, e4, e5⟩ := w.yields i H' x H'' (by omega) q y
    obtain ⟨p, h1, h2⟩ := r'.getV e5
    cases e4
    subst e1
    obtain ⟨k1, k2⟩ := pair_rep (ct := ct) (p := .int (i : Int)) hx e2 (Rep.int_iff.mpr rfl) h2 e3
    exact ⟨k1, _, by rw [enumP_get, h1]; simp, k2⟩
theorem it_enumT {a : Addr} {xs : List PV} {vs : List V} (h : Vw H A M a (.tup vs)) (r : RepL K ct H A M xs vs) : ItOk K ct (IteT K a) A M H (enumP 0 xs) := fun A' M' H' l hx => by
  have q : SqT K H' a vs := (h.lat l).sqT
  have r' := r.lat l xs vs
  have hl := r.length
  rw [enumP_length]
  refine ⟨fun i hi => ⟨vs, vs[i]'(by omega), q, by simp [show i < vs.length by omega]⟩, ⟨vs, q, by omega⟩, fun i x H'' hi y => ?_⟩
  obtain ⟨T, z, e1, e2, e3, e5⟩ := y
  obtain ⟨p, h1, h2⟩ := r'.getV (e5 vs q)
  subst e1
  obtain ⟨k1, k2⟩ := pair_rep (ct := ct) (p := .int (i : Int)) hx e2 (Rep.int_iff.mpr rfl) h2 e3
  exact ⟨k1, _, by rw [enumP_get, h1]; simp, k2⟩
theorem it_range {lo : Int} {n : Nat} : ItOk K ct (Itr lo n) A M H (rangeP lo n) := fun A' M' H' l hx => by
  have hl : (rangeP lo n).length = n := by simp [rangeP]
  rw [hl]
  refine ⟨fun i hi => hi, Nat.le_refl _, fun i x H'' hi y => ?_⟩
  obtain ⟨e, y⟩ := y
  subst e
  subst y
  exact ⟨Same.refl _, .int (lo + (i : Int)), by simp [rangeP, hi], Rep.int_iff.mpr rfl⟩
theorem it_rangeD {lo : Int} {n : Nat} : ItOk K ct (Itc lo (-1) n) A M H (rangeD lo n) := fun A' M' H' l hx => by
  have hl : (rangeD lo n).length = n := by simp [rangeD]
  rw [hl]
  refine ⟨fun i hi => hi, Nat.le_refl _, fun i x H'' hi y => ?_⟩
  obtain ⟨e, y⟩ := y
  subst e
  subst y
  refine ⟨Same.refl _, .int (lo - (i : Int)), by simp [rangeD, hi], Rep.int_iff.mpr ?_⟩
  congr 1
  omega
end
section
variable {ct : Ct} {X : Cx} {tg l a : Expr} {es : List Expr} {f : FE} {fa : FA} {pos p : Pos}
theorem ji_seq (h : JE ct X l f) : JI ct X tg l (iSeq f) := by
  refine ⟨((pi_list h.pe).or (pi_tup h.pe)).imp fun σ H R q => ?_⟩
  obtain ⟨G, env, S, v, S', g, h1, q⟩ := q
  obtain ⟨⟨x, S1⟩, e1, h1⟩ := Res.bind_ok h1
  cases x with
  | lst xs =>
    cases h1
    refine .inl ⟨G, env, S, _, _, g, e1, fun y H1 A1 p1 s1 r1 => ?_⟩
    obtain ⟨b, vs, e2, h3, h4⟩ := r1.lst_inv
    exact ⟨b, e2, ⟨vs, h3.sqL⟩, q _ H1 A1 p1 s1 (it_list h3 h4)⟩
  | tup xs =>
    cases h1
    refine .inr ⟨G, env, S, _, _, g, e1, fun y H1 A1 p1 s1 r1 => ?_⟩
    obtain ⟨b, vs, e2, h3, h4⟩ := r1.tup_inv
    exact ⟨b, e2, ⟨vs, h3.sqT⟩, q _ H1 A1 p1 s1 (it_tup h3 h4)⟩
  | scr ns =>
    cases h1
    refine .inl ⟨G, env, S, _, _, g, e1, fun y H1 A1 p1 s1 r1 => ?_⟩
    obtain ⟨b, e2, h2, h3⟩ := r1.scr_inv
    exact ⟨b, e2, ⟨_, h2⟩, q _ H1 A1 p1 s1 (it_scr h3)⟩
  | _ => cases h1
theorem bdI_ok {i : Int} (h : bdI i = true) : -(2 ^ 62) ≤ i ∧ i < 2 ^ 62 := by
  unfold bdI at h
  rw [Bool.and_eq_true, decide_eq_true_eq, decide_eq_true_eq] at h
  exact h
theorem ji_range1 (hm : X.mg "range" = none) (h : JA ct X [a] fa) (hg : Gl X "range" := by rfl) (hs : starEach [a] X.env = [(false, eval a X.env)] := by rfl) : JI ct X tg (.Call (.Name "range" p) [a] [] pos) (iR1 fa) := by
  refine ⟨(pi_range1 hg hm h.pa hs).imp fun σ H R q => ?_⟩
  obtain ⟨G, env, S, v, S', g, h1, q⟩ := q
  obtain ⟨⟨x, S1⟩, e1, h1⟩ := Res.bind_ok h1
  refine ⟨G, env, S, x, S1, g, e1, fun vs H1 A1 p1 s1 r1 => ?_⟩
  dsimp only at h1
  split at h1
  · rename_i j
    split at h1
    · rename_i hb
      cases h1
      obtain ⟨b1, b2⟩ := bdI_ok hb
      obtain ⟨v, rfl, rv⟩ := r1.one
      exact ⟨j, by rw [Rep.int_iff.mp rv], b1, b2, q _ H1 A1 p1 s1 it_range⟩
    · cases h1
  · cases h1
theorem ji_range2 {b : Expr} (hm : X.mg "range" = none) (h : JA ct X [a, b] fa) (hg : Gl X "range" := by rfl) (hs : starEach [a, b] X.env = [(false, eval a X.env), (false, eval b X.env)] := by rfl) (hs2 : starEach [b] X.env = [(false, eval b X.env)] := by rfl) : JI ct X tg (.Call (.Name "range" p) [a, b] [] pos) (iR2 fa) := by
  refine ⟨(pi_range2 hg hm h.pa hs hs2).imp fun σ H R q => ?_⟩
  obtain ⟨G, env, S, v, S', g, h1, q⟩ := q
  obtain ⟨⟨x, S1⟩, e1, h1⟩ := Res.bind_ok h1
  refine ⟨G, env, S, x, S1, g, e1, fun vs H1 A1 p1 s1 r1 => ?_⟩
  dsimp only at h1
  split at h1
  · rename_i i j
    split at h1
    · rename_i hb
      cases h1
      rw [Bool.and_eq_true] at hb
      obtain ⟨b1, b2⟩ := bdI_ok hb.1
      obtain ⟨b3, b4⟩ := bdI_ok hb.2
      obtain ⟨v, w, rfl, rv, rw'⟩ := r1.two
      exact ⟨i, j, by rw [Rep.int_iff.mp rv, Rep.int_iff.mp rw'], ⟨b1, b2, b3, b4⟩, q _ H1 A1 p1 s1 it_range⟩
    · cases h1
  · cases h1
theorem ji_range3 {b c : Expr} (hm : X.mg "range" = none) (h : JA ct X [a, b, c] fa) (hg : Gl X "range" := by rfl) (hs : starEach [a, b, c] X.env = (false, eval a X.env) :: starEach [b, c] X.env := by rfl) (hpl : (backTo pos (starEach [b, c] X.env)).any (·.1) = false := by rfl) : JI ct X tg (.Call (.Name "range" p) [a, b, c] [] pos) (iR3 fa) := by
  refine ⟨(pi_range3 hg hm h.pa hs hpl).imp fun σ H R q => ?_⟩
  obtain ⟨G, env, S, v, S', g, h1, q⟩ := q
  obtain ⟨⟨x, S1⟩, e1, h1⟩ := Res.bind_ok h1
  refine ⟨G, env, S, x, S1, g, e1, fun vs H1 A1 p1 s1 r1 => ?_⟩
  dsimp only at h1
  split at h1
  · rename_i i j c
    split at h1
    · rename_i hb
      cases h1
      obtain ⟨hc, hb1, hb2⟩ := hb
      subst hc
      obtain ⟨b1, b2⟩ := bdI_ok hb1
      obtain ⟨b3, b4⟩ := bdI_ok hb2
      obtain ⟨v, w, z, rfl, rv, rw', rz⟩ := r1.three
      exact ⟨i, j, -1, (i - j).toNat, by rw [Rep.int_iff.mp rv, Rep.int_iff.mp rw', Rep.int_iff.mp rz], RgC.neg b1 b2 b3 b4, q _ H1 A1 p1 s1 it_rangeD⟩
    · cases h1
  · cases h1
theorem ji_enum {elts : List Expr} {kk : Nat} {tpos : Pos} (hm : X.mg "enumerate" = none) (h : JA ct X [a] fa) (hg : Gl X "enumerate" := by rfl) (hs : starEach [a] X.env = [(false, eval a X.env)] := by rfl) : JI ct X (.Tuple elts kk tpos) (.Call (.Name "enumerate" p) [a] [] pos) (iEn fa) := by
  refine ⟨((pi_enum hg hm h.pa hs).or (pi_enumT hg hm h.pa hs)).imp fun σ H R q => ?_⟩
  obtain ⟨G, env, S, v, S', g, h1, q⟩ := q
  obtain ⟨⟨x, S1⟩, e1, h1⟩ := Res.bind_ok h1
  dsimp only at h1
  split at h1
  · cases h1
    refine .inl ⟨G, env, S, _, _, g, e1, fun y H1 A1 p1 s1 r1 => ?_⟩
    obtain ⟨z, rfl, r2⟩ := r1.one
    obtain ⟨b, vs, rfl, h3, h4⟩ := r2.lst_inv
    exact ⟨b, vs, rfl, h3.sqL, q _ H1 A1 p1 s1 (it_enumL h3 h4)⟩
  · cases h1
    refine .inr ⟨G, env, S, _, _, g, e1, fun y H1 A1 p1 s1 r1 => ?_⟩
    obtain ⟨z, rfl, r2⟩ := r1.one
    obtain ⟨b, vs, rfl, h3, h4⟩ := r2.tup_inv
    exact ⟨b, vs, rfl, h3.sqT, q _ H1 A1 p1 s1 (it_enumT h3 h4)⟩
  · cases h1
end

/-! ### comprehensions -/
def wipeE (env : Env) : List Nat → Env
  | [] => env
  | v :: vs => (wipeE env vs).set v .un
theorem Good.wipe {K : PySem.W.Frag} {ct : Ct} {G : Gh} {σ : St} {H : Hp} {env : Env} {S : Sto} (g : Good K ct G σ H env S) : ∀ vs : List Nat, Good K ct G (wipe σ vs) H (wipeE env vs) S
  | [] => g
  | v :: vs => (g.wipe vs).setUn
def lcL (g : GN) (t : FT) (e : FE) : List PV → Env → Sto → Res (List PV × Sto)
  | [], _, S => .ok ([], S)
  | x :: r, env, S => (ofO (g x env)).bind fun en => (t en S).bind fun b => if b.1 then (e en b.2).bind fun y => (lcL g t e r env y.2).bind fun z => .ok (y.1 :: z.1, z.2) else lcL g t e r env b.2
def eLc (vs : List Nat) (it : FA) (g : GN) (t : FT) (e : FE) : FE := fun env S => (it env S).bind fun xs => if xs.1.length ≤ 1000000 then (lcL g t e xs.1 (wipeE env vs) xs.2).bind fun ys => .ok (.lst ys.1, ys.2) else .err
def tT : FT := fun _ S => .ok (true, S)
structure JTs (ct : Ct) (X : Cx) (ifs : List Expr) (t : FT) : Prop where
  pts : PTs X ifs (rdT X.K ct t)
theorem _root_.L2.PTs.imp {X : Cx} {e : List Expr} {t t' : TT} (h : PTs X e t) (i : ∀ σ H Q, t' σ H Q → t σ H Q) : PTs X e t' := ⟨fun pins s σ H Q I q => h.run pins s σ H Q I (i σ H Q q)⟩
theorem jts_nil {ct : Ct} {X : Cx} : JTs ct X [] tT := ⟨pts_nil.imp fun σ H Q h => by
  obtain ⟨G, env, S, v, S', g, h1, q⟩ := h
  cases h1
  exact q H G.A (Post.refl H g.bs.nodup) g.bs.sto⟩
theorem jts_one {ct : Ct} {X : Cx} {c : Expr} {t : FT} (h : JT ct X c t) : JTs ct X [c] t := ⟨pts_one h.pt⟩
theorem lcL_len {g : GN} {t : FT} {e : FE} : ∀ {xs : List PV} {env : Env} {S : Sto} {ys : List PV} {S' : Sto}, lcL g t e xs env S = .ok (ys, S') → ys.length ≤ xs.length
  | [], env, S, ys, S', h => by cases h; exact Nat.le_refl _
  | x :: r, env, S, ys, S', h => by
    obtain ⟨en, e1, h⟩ := Res.bind_ok h
    obtain ⟨⟨b, S1⟩, e2, h⟩ := Res.bind_ok h
    cases b with
    | true =>
      obtain ⟨⟨y, S2⟩, e3, h⟩ := Res.bind_ok h
      obtain ⟨⟨z, S3⟩, e4, h⟩ := Res.bind_ok h
      cases h
      have := lcL_len e4
      simp only [List.length_cons]
      omega
    | false =>
      have := lcL_len (xs := r) h
      simp only [List.length_cons]
      omega
theorem wipe_same {σ σ' : St} {ws vs : List Nat} (h1 : ∀ j, j ∉ ws → σ'[j]? = (wipe σ vs)[j]?) (h2 : σ'.length = (wipe σ vs).length) (hs : ∀ j ∈ ws, j ∈ vs) : wipe σ' vs = wipe σ vs := by
  refine List.ext_getElem? fun (j : Nat) => ?_
  have key : ∀ (τ : St) (us : List Nat), (wipe τ us)[j]? = if j ∈ us then (if j < τ.length then some none else none) else τ[j]? := by
    intro τ us
    induction us with
    | nil => simp [wipe]
    | cons u us ih =>
      unfold wipe
      rw [List.getElem?_set]
      by_cases e : u = j
      · subst e; simp [wipe_length]
      · have e' : ¬ j = u := fun z => e z.symm
        rw [if_neg e, ih]
        simp [e']
  rw [key, key]
  by_cases hj : j ∈ vs
  · rw [if_pos hj, if_pos hj, h2, wipe_length]
  · rw [if_neg hj, if_neg hj, h1 j (fun z => hj (hs j z)), key, if_neg hj]
theorem rdF_lc {K : PySem.W.Frag} {ct : Ct} {vs ws : List Nat} {it : FA} {g : GN} {t : FT} {e : FE} (hw : ∀ j ∈ ws, j ∈ vs) {σ : St} {H : Hp} {Q : VK} (h : rdF K ct (eLc vs it g t e) σ H Q) :
    tLc (rdI K ct it) (rdN K ct ws g) (rdT K ct t) (rd K ct e) vs σ H Q := by
  obtain ⟨G, env, S, v, S', gd, h1, q⟩ := h
  obtain ⟨⟨xs, S1⟩, e1, h1⟩ := Res.bind_ok h1
  dsimp only at h1
  split at h1
  · rename_i hsz
    obtain ⟨⟨ys, S2⟩, e2, h1⟩ := Res.bind_ok h1
    cases h1
    refine ⟨G, env, S, xs, S1, gd, e1, fun J H1 A1 p1 s1 io D nD => ?_⟩
    have g1 := gd.post p1 s1
    have smD : Same H1 (upd H1 D (.lst [])) := same_new nD
    have nDH : H D = none := by
      cases eD : H D with
      | none => rfl
      | some o =>
        by_cases ha : D ∈ G.A
        · exact absurd nD (g1.inA D (p1.pre.subset ha))
        · rw [p1.ext D o eD ha] at nD; cases nD
    refine ⟨fun i m Hc => m = xs.length - i ∧ i ≤ xs.length ∧ ∃ A' S' acc accV zs, Good K ct { G with A := A', M := D :: G.M } (wipe σ vs) Hc (wipeE env vs) S' ∧ Lat A1 G.M H1 A' (D :: G.M) Hc ∧ Post G.A H A' Hc ∧ Hc D = some (.lst accV) ∧
      RepL K ct Hc A' (D :: G.M) acc accV ∧ lcL g t e (xs.drop i) (wipeE env vs) S' = .ok (zs, S2) ∧ ys = acc ++ zs, ⟨xs.length, by simp, Nat.zero_le _, A1, S1, [], [], ys, (g1.hide nD smD (by rw [upd_same]; simp) (by rw [upd_same]; simp)).wipe vs, lat_hide nD smD, p1.trans (Post.grow g1.bs.nodup smD), upd_same, .nil, by simpa using e2, rfl⟩, ?_⟩
    rintro i m Hc ⟨rfl, hi, Ac, Sc, acc, accV, zs, gc, lc, pc, hD, rD, ec, ey⟩
    obtain ⟨go, stop, yl⟩ := io Ac (D :: G.M) Hc lc gc.hx
    by_cases hlt : i < xs.length
    · refine .inr ⟨go i hlt, fun Hn => i + 1 ≤ xs.length ∧ ∃ A' S' acc accV zs, Good K ct { G with A := A', M := D :: G.M } (wipe σ vs) Hn (wipeE env vs) S' ∧ Lat A1 G.M H1 A' (D :: G.M) Hn ∧ Post G.A H A' Hn ∧ Hn D = some (.lst accV) ∧
        RepL K ct Hn A' (D :: G.M) acc accV ∧ lcL g t e (xs.drop (i + 1)) (wipeE env vs) S' = .ok (zs, S2) ∧ ys = acc ++ zs, fun Hn qn => ⟨xs.length - (i + 1), by omega, rfl, qn⟩, fun x H3 hy => ?_⟩
      obtain ⟨sm, v, hv, rv⟩ := yl i x H3 hlt hy
      rw [drop_cons hv] at ec
      obtain ⟨en, e3, ec⟩ := Res.bind_ok ec
      obtain ⟨⟨b, S4⟩, e4, ec⟩ := Res.bind_ok ec
      have g3 := gc.grow sm
      have pp3 : Post Ac Hc Ac H3 := Post.grow gc.bs.nodup sm
      refine ⟨_, _, Sc, v, en, g3, rv, ofO_ok e3, fun σ4 k1 k2 g4 => ⟨wipe_same k1 k2 hw, _, en, Sc, b, S4, g4, e4, fun H5 A5 p5 s5 => ?_⟩⟩
      have l5 : Lat A1 G.M H1 A5 (D :: G.M) H5 := lc.trans ((pp3.trans p5).lat _)
      have q5 : Post G.A H A5 H5 := pc.trans (pp3.trans p5)
      have nDA : D ∉ Ac := gc.bs.disj D List.mem_cons_self
      have hD5 : H5 D = some (.lst accV) := p5.ext D _ (sm D _ hD) nDA
      have r5 := rD.lat ((pp3.trans p5).lat (D :: G.M)) acc accV
      have g5w : Good K ct { G with A := A5, M := D :: G.M } (wipe σ vs) H5 (wipeE env vs) S4 := g3.post p5 s5
      cases b with
      | true =>
        dsimp only at ec ⊢
        rw [if_pos rfl] at ec ⊢
        obtain ⟨⟨y, S6⟩, e6, ec⟩ := Res.bind_ok ec
        obtain ⟨⟨z, S7⟩, e7, ec⟩ := Res.bind_ok ec
        cases ec
        refine ⟨_, en, S4, y, S6, g4.post p5 s5, e6, fun yv H8 A8 p8 s8 r8 => ?_⟩
        have g8w := g5w.post p8 s8
        have nDA5 : D ∉ A5 := g5w.bs.disj D List.mem_cons_self
        have hD8 : H8 D = some (.lst accV) := p8.ext D _ hD5 nDA5
        have r9 := r5.lat (p8.lat (D :: G.M)) acc accV
        refine ⟨accV, hD8, ?_, hlt, ?_⟩
        · have l1 := lcL_len e7
          have l2 := lcL_len e2
          have l3 := congrArg List.length ey
          rw [rD.length]
          simp only [List.length_append, List.length_cons] at l3
          exact Nat.lt_of_lt_of_le (show acc.length < 1000001 by omega) (by decide)
        · have hm : D ∈ D :: G.M := List.mem_cons_self
          have lu : Lat A8 (D :: G.M) H8 A8 (D :: G.M) (upd H8 D (.lst (accV ++ [yv]))) := lat_upd (.inr hm)
          have nDA8 : D ∉ A8 := g8w.bs.disj D hm
          refine ⟨A8, S6, acc ++ [y], accV ++ [yv], z, ?_, (l5.trans (p8.lat _)).trans lu, ?_, upd_same, (r9.append (.cons r8 .nil)).lat lu _ _, e7, by rw [ey]; simp⟩
          · refine ⟨⟨⟨g8w.bs.sto.len, fun n a us k1 k2 => ?_⟩, g8w.bs.nodup, fun a ha => ?_, g8w.bs.disj, fun a ha vs ev => ?_⟩, fun j sl hs => ?_, g8w.uniq, fun a o k1 k2 => ?_, g8w.pre0, g8w.new0, g8w.sub0, g8w.in0, g8w.len⟩
            · obtain ⟨ws', k3, k4⟩ := g8w.bs.sto.at' n a us k1 k2
              exact ⟨ws', by rw [upd_ne (fun zz => nDA8 (by rw [← zz]; exact List.mem_of_getElem? k1))]; exact k3, k4.lat lu us ws'⟩
            · by_cases hap : a = D
              · subst hap; rw [upd_same]; simp
              · rw [upd_ne hap]; exact g8w.bs.inM a ha
            · by_cases hap : a = D
              · subst hap; rw [upd_same] at ev; cases ev
              · rw [upd_ne hap] at ev; exact g8w.bs.noT a ha vs ev
            · have qs := g8w.slot j sl hs
              cases sl with
              | un => trivial
              | val w => obtain ⟨u, k1, k2⟩ := qs; exact ⟨u, k1, k2.lat lu w u⟩
              | own w =>
                obtain ⟨p', k1, k2, k3, k4⟩ := qs
                have hne : p' ≠ D := fun zz => by
                  subst zz
                  obtain ⟨p'', k5, k6, k7, k8⟩ := ((gd.wipe vs).slot j _ hs)
                  have : (wipe σ vs)[j]? = some (some (.ref p')) := k1
                  rw [this] at k5; cases k5
                  exact gd.bs.inM p' k6 nDH
                exact ⟨p', k1, k2, k3, k4.lat lu (by rw [upd_ne hne])⟩
            · have hne : a ≠ D := fun zz => by
                subst zz
                rw [gd.fresh0 nDH] at k1; cases k1
              rw [upd_ne hne]; exact g8w.ext0 a o k1 k2
          · have q8 : Post G.A H A8 H8 := q5.trans p8
            exact ⟨q8.pre, fun a o k1 k2 => by
              rw [upd_ne (fun zz => by subst zz; rw [nDH] at k1; cases k1)]; exact q8.ext a o k1 k2, q8.new, q8.nodup⟩
      | false =>
        dsimp only at ec ⊢
        rw [if_neg Bool.false_ne_true] at ec ⊢
        exact ⟨hlt, A5, S4, acc, accV, zs, g5w, l5, q5, hD5, r5, ec, ey⟩
    · have hn : i = xs.length := by omega
      subst hn
      rw [List.drop_length] at ec
      cases ec
      rw [List.append_nil] at ey
      subst ey
      refine .inl ⟨stop, q D Hc Ac pc nDH (gc.bs.disj D List.mem_cons_self) gc.bs.sto ⟨accV, hD, rD⟩⟩
  · cases h1
section
variable {ct : Ct} {X : Cx} {tg iter elt : Expr} {ifs : List Expr} {it : FA} {g : GN} {ws : List Nat} {t : FT} {fe : FE} {pos : Pos} {scope : Scope} {own : List (Str × Nat)}
theorem jf_lc (own : List (Str × Nat)) (hN : X.N.Nodup) (hi : JI ct X tg iter it) (ok : BlkOk X.N X.env.scope scope own)
    (hg : ∀ (s : Shared) (H : Hp) (C : Addr) (cl : List (Str × Addr)) (fp : List Addr), JN ct (X.blk s H scope (compEnvC scope cl C X.env) fp) tg ws g)
    (ht : ∀ (s : Shared) (H : Hp) (C : Addr) (cl : List (Str × Addr)) (fp : List Addr), JTs ct (X.blk s H scope (compEnvC scope cl C X.env) fp) ifs t)
    (he : ∀ (s : Shared) (H : Hp) (C : Addr) (cl : List (Str × Addr)) (fp : List Addr), JE ct (X.blk s H scope (compEnvC scope cl C X.env) fp) elt fe) (hc : X.calm = true := by rfl) (hw : ∀ j ∈ ws, j ∈ own.map (·.2) := by decide) (hs : ∀ x, foldedSetIterable iter X.env x = pure x := by intro _; rfl) :
    JF ct X (.ListComp elt [⟨tg, iter, ifs, 0⟩] scope pos) (eLc (own.map (·.2)) it g t fe) :=
  ⟨(pe_lc hc hN hi.pi ok (fun s H C cl fp => (hg s H C cl fp).pg) (fun s H C cl fp => (ht s H C cl fp).pts) (fun s H C cl fp => (he s H C cl fp).pe) hs).imp fun _ _ _ h => rdF_lc hw h⟩
theorem js_ownLc (i : Nat) (own : List (Str × Nat)) {y : Str} {py spos : Pos} (hN : X.N.Nodup) (hi : JI ct X tg iter it) (ok : BlkOk X.N X.env.scope scope own)
    (hg : ∀ (s : Shared) (H : Hp) (C : Addr) (cl : List (Str × Addr)) (fp : List Addr), JN ct (X.blk s H scope (compEnvC scope cl C X.env) fp) tg ws g)
    (ht : ∀ (s : Shared) (H : Hp) (C : Addr) (cl : List (Str × Addr)) (fp : List Addr), JTs ct (X.blk s H scope (compEnvC scope cl C X.env) fp) ifs t)
    (he : ∀ (s : Shared) (H : Hp) (C : Addr) (cl : List (Str × Addr)) (fp : List Addr), JE ct (X.blk s H scope (compEnvC scope cl C X.env) fp) elt fe) (hc : X.calm = true := by rfl) (hy : X.N[i]? = some y := by rfl) (hyl : X.env.scope.names.lookup y = some .local := by rfl)
    (hsw : swapsWith (.ListComp elt [⟨tg, iter, ifs, 0⟩] scope pos) (some (.Name y py)) spos.line X.env = pure true := by exact sw_true rfl rfl rfl (by decide +kernel)) (hw : ∀ j ∈ ws, j ∈ own.map (·.2) := by decide) (hs : ∀ x, foldedSetIterable iter X.env x = pure x := by intro _; rfl) :
    JS ct X (.Assign [.Name y py] (.ListComp elt [⟨tg, iter, ifs, 0⟩] scope pos) spos) (sOwn i (eLc (own.map (·.2)) it g t fe)) :=
  ⟨(ps_setLc hc hN hy hyl hsw hi.pi ok (fun s H C cl fp => (hg s H C cl fp).pg) (fun s H C cl fp => (ht s H C cl fp).pts) (fun s H C cl fp => (he s H C cl fp).pe) hs).imp fun D σ H h => rdF_lc hw (asg_own h)⟩
end
end J
set_option Elab.async false
set_option linter.all false
set_option maxRecDepth 100000
/-! J: defs and their calls. -/
namespace J
open L2 PySem PySem.Spec PyProof.Rows

structure FnG (P : Program) (w : World) (K : PySem.W.Frag) (mg : Str → Option Value) (base : Heap) (k : Nat) (f : Addr) (fd : FuncData) (ps : List Str) (sp : Sp) : Prop where
  len : ∀ (vs : List V) (H : Hp) Q E, sp vs H Q E → vs.length = ps.length
  run : ∀ (A : Around) (outer : List PySem.Env) (s : Shared) (H : Hp) (args : Args) (us : List Value) (vs : List V) (Q : VK) (E : XK), Room k A → A.guards = some [] → Env0 P w K mg base A outer s H →
    BindsTo s fd args (ps.zip us) → Vals vs us → sp vs H Q E → codeAny (model P w) A (.call (.ref f) args) (CR CX0 outer P w H s Q E) s
theorem FnG.mono {P : Program} {w : World} {K : PySem.W.Frag} {mg : Str → Option Value} {base : Heap} {j k : Nat} {f : Addr} {fd : FuncData} {ps : List Str} {sp : Sp} (F : FnG P w K mg base j f fd ps sp) (h : j ≤ k) : FnG P w K mg base k f fd ps sp :=
  ⟨F.len, fun A outer s H args us vs Q E hr => F.run A outer s H args us vs Q E (hr.mono h)⟩
/-- the pure promise -/
def spM (K : PySem.W.Frag) (ct : Ct) (n : Nat) (f : List PV → Sto → Res (PV × Sto)) : Sp := fun vs H Q _ => vs.length = n ∧ ∃ A M args S v S', Bs K ct A M H S ∧ RepL K ct H A M args vs ∧ f args S = .ok (v, S') ∧
  ∀ x H' A', Post A H A' H' → StoOk K ct H' A' M S' → Rep K ct H' A' M v x → Q x H'
def env0 (n : Nat) (args : List PV) : Env := args.map Slot.val ++ List.replicate (n - args.length) Slot.un
def runF (n : Nat) (F : FS) (args : List PV) (S : Sto) : Res (PV × Sto) := match F (env0 n args) S with
  | .ok (.rt v S') => .ok (v, S')
  | .ok (.nx _ S') => .ok (.non, S')
  | _ => .err
section
variable {P : Program} {w : World} {K : PySem.W.Frag} {mg : Str → Option Value} {base : Heap} {ct : Ct}
theorem good_start {A M : List Addr} {H : Hp} {S : Sto} {args : List PV} {vs : List V} {N : List Str} (b : Bs K ct A M H S) (r : RepL K ct H A M args vs) : Good K ct ⟨H, A, M, A, M⟩ (L2.start N vs) H (env0 N.length args) S where
  bs := b
  slot := fun i s hs => by
    unfold env0 at hs
    by_cases hi : i < args.length
    · rw [List.getElem?_append_left (by simpa using hi), List.getElem?_map, List.getElem?_eq_getElem hi] at hs
      cases hs
      obtain ⟨v, hv, rv⟩ := r.get (List.getElem?_eq_getElem hi)
      refine ⟨v, ?_, rv⟩
      unfold L2.start
      rw [List.getElem?_append_left (by rw [List.length_map, r.length]; exact hi), List.getElem?_map, hv]
      rfl
    · rw [List.getElem?_append_right (by simpa using hi), List.getElem?_replicate] at hs
      split at hs
      · cases hs; trivial
      · cases hs
  uniq := fun i j v w' p h1 h2 h3 h4 => by
    exfalso
    have hm : Slot.own v ∈ env0 N.length args := List.mem_of_getElem? h1
    unfold env0 at hm
    rcases List.mem_append.mp (show _ ∈ _ ++ _ from hm) with q | q
    · obtain ⟨x, _, e⟩ := List.mem_map.mp q
      cases e
    · rw [(List.mem_replicate.mp q).2] at h1
      have := (List.mem_replicate.mp q).2
      cases this
  ext0 := fun _ _ h _ => h
  pre0 := List.prefix_refl _
  new0 := fun _ h => .inl h
  sub0 := fun _ h => h
  in0 := b.inM
  len := by
    unfold env0 L2.start
    rw [List.length_append, List.length_append, List.length_map, List.length_map, List.length_replicate, List.length_replicate, r.length]
/-- a def of the text, where it stands -/
def Def1 (K : PySem.W.Frag) (mg : Str → Option Value) (x : Str) (st : Stmt) : Prop := ∃ f fd, FunD K x x (defArgs st) (defBody st) (defScope st) [] [] f fd ∧ mg x = some (.ref f)
def DefOk (ct : Ct) (P : Program) (w : World) (K : PySem.W.Frag) (mg : Str → Option Value) (base : Heap) (x : Str) (st : Stmt) (k : Nat) (ps : List Str) (f : List PV → Sto → Res (PV × Sto)) : Prop :=
  ∃ fa fd, FunD K x x (defArgs st) (defBody st) (defScope st) [] [] fa fd ∧ mg x = some (.ref fa) ∧ FnG P w K mg base k fa fd ps (spM K ct ps.length f)
theorem DefOk.mono {x : Str} {st : Stmt} {j k : Nat} {ps : List Str} {f : List PV → Sto → Res (PV × Sto)} (D : DefOk ct P w K mg base x st j ps f) (h : j ≤ k) : DefOk ct P w K mg base x st k ps f := by
  obtain ⟨fa, fd, F, g, G⟩ := D
  exact ⟨fa, fd, F, g, G.mono h⟩
/-- the same values by another function -/
theorem DefOk.sub {x : Str} {st : Stmt} {k : Nat} {ps : List Str} {f f' : List PV → Sto → Res (PV × Sto)} (D : DefOk ct P w K mg base x st k ps f) (h : ∀ args S v, f' args S = .ok v → f args S = .ok v) : DefOk ct P w K mg base x st k ps f' := by
  obtain ⟨fa, fd, F, g, G⟩ := D
  refine ⟨fa, fd, F, g, ⟨fun vs H Q E q => q.1, fun A outer s H args us vs Q E hr hg e0 hb hv hs => G.run A outer s H args us vs Q E hr hg e0 hb hv ?_⟩⟩
  obtain ⟨l, A1, M1, as, S, v, S', b, r, e, q⟩ := hs
  exact ⟨l, A1, M1, as, S, v, S', b, r, h _ _ _ e, q⟩
theorem def_ok {x : Str} {st : Stmt} {N ps : List Str} {k : Nat} {F : FS} (D : Def1 K mg x st) (S : FnScope N ps (defScope st))
    (body : ∀ (f : Addr) (cdv : Value) (A : Around) (outer : List PySem.Env) (s : Shared) (H : Hp) (E : XK), Room k (A.deeper (envOfC x (defScope st) s.heap.objs.size f cdv)) → A.guards = some [] →
      JSs ct (cxOf CX0 P w K mg base N x (defScope st) f cdv A outer s H E).nox (defBody st) F) : DefOk ct P w K mg base x st (k + 1) ps (runF N.length F) := by
  obtain ⟨f, fd, FD, g⟩ := D
  refine ⟨f, fd, FD, g, ⟨fun vs H Q E qZ => qZ.1, ?_⟩⟩
  obtain ⟨oc, od, dV, kV, doc, pm, an, cdv, ctv, osl, rfl, lk, hcd, hD, hK⟩ := FD.ex
  intro A outer s H args us vs Q E hr hg e0 hb r hsp
  have hl : vs.length = ps.length := hsp.1
  have KXZ : K.In s.heap := e0.mod.kin.keeps fun b o e => (e0.bs b o e).1
  have limZ : s.heap.NoLimit := e0.mod.nolimit.keeps fun b o e => (e0.bs b o e).1
  refine codeAny_call_function hr.depth (KXZ _ _ lk) rfl S.co S.gen rfl (PySem.W.codeRec_of KXZ hcd) (hb _ _ _ _ ?_)
  refine wpAny_newFunctionEnv_cells S.kind (fun y hy => ?_) fun env he s1 x1 => ?_
  · rcases S.par y.1 (List.of_mem_zip (show (y.1, y.2) ∈ ps.zip us from hy)).1 with qZ | qZ
    · exact .inl qZ
    · exact .inr ⟨qZ, PySem.W.cellsFrom_some _ _ _ (.inl qZ)⟩
  subst he
  refine ⟨limZ.keeps x1.toInCall.keep, codeAny_func ?_⟩
  obtain ⟨_, A1, M1, as, S1, v, S', b, ra, e, qZ⟩ := hsp
  have ht := (body f cdv A outer s H E (hr.deeper _) hg).ps.nox
  have I : Inv (cxOf CX0 P w K mg base N x (defScope st) f cdv A outer s H E) [] (L2.start N vs) H s1 := inv_start S hr.hd e0 hl r x1
  have gs : Good K ct ⟨H, A1, M1, A1, M1⟩ (L2.start N vs) H (env0 N.length as) S1 := good_start b ra
  have rd : rdS K ct F { nx := fun _ H' => Q .non H', rt := Q } (L2.start N vs) H := by
    unfold runF at e
    split at e
    · rename_i v1 S2 hF
      cases e
      exact ⟨_, _, S1, _, gs, hF, fun y H' A' p1 s1 r1 => qZ y H' A' p1 s1 r1⟩
    · rename_i en S2 hF
      cases e
      refine ⟨_, _, S1, _, gs, hF, fun σ' H' A' M' l g' => ?_⟩
      exact qZ .non H' A' g'.post0 (g'.bs.sto.less g'.sub0) (Rep.non_iff.mpr rfl)
    · cases e
  refine wpAny_mono (ht.run [] s1 (L2.start N vs) H _ I rd) (fun fl s' hs => ?_) fun e s' hs => hs
  have fin : ∀ {σ' : L2.St} {H' : Hp} {v : V} {u : Value}, Inv (cxOf CX0 P w K mg base N x (defScope st) f cdv A outer s H E) [] σ' H' s' → RelV v u → Q v H' → CE outer P w H s Q u s' := fun {σ' H' v u} J' rv qZ => ⟨v, H', J'.os, J'.bare, J'.base, J'.hok, rv, qZ⟩
  cases fl with
  | ret u => obtain ⟨v, σ', H', J', rv, qZ⟩ := hs; exact fin J' rv qZ
  | next => obtain ⟨σ', H', J', qZ⟩ := hs; exact fin (v := V.non) (u := Value.none) J' rfl qZ
  | brk => obtain ⟨_, _, _, qZ⟩ := hs; exact False.elim qZ
  | cont => obtain ⟨_, _, _, qZ⟩ := hs; exact False.elim qZ
end
section
variable {X : Cx} {k : Nat} {f : Addr} {fd : FuncData} {ps : List Str} {sp : Sp}
theorem run_fnG {pins : List (Addr × Obj)} {σ : L2.St} {H : Hp} {s : Shared} {Q : VK} {us : List Value} {kw : List (Str × Value)} {uz : List Value} {vs : List V} (F : FnG X.prog X.w X.K X.mg X.base k f fd ps sp) (hr : Room k X.A) (hG : X.A.guards = some [])
    (hb : BindsTo s fd ⟨us, kw⟩ (ps.zip uz)) (I : Inv X pins σ H s) (r : Vals vs uz) (h : sp vs H Q E0) : wpAny (model X.prog X.w) X.A (call (.ref f) us kw) (EP X pins σ Q) X.xe s := by
  refine wpAny_call (codeAny_mono (F.run X.A X.stack s H ⟨us, kw⟩ uz vs Q E0 hr hG I.env0 hb r h) fun r s' hqZ => ?_)
  cases r with
  | error e => exact False.elim hqZ
  | ok fl =>
    cases fl with
    | ret u => exact I.after hqZ
    | next => exact False.elim hqZ
    | brk => exact False.elim hqZ
    | cont => exact False.elim hqZ
end
/-- how a call's arguments bind: us by place, then the rest by name, in the parameters' order -/
def KwB (x : Str) (st : Stmt) (ps : List Str) (n : Nat) : Prop := ∀ (kV doc pm : Value) (an : Option Addr) (cdv ct : Value) (us ws : List Value), us.length = n → us.length + ws.length = ps.length →
  bindArgs (PySem.W.fnOf x x (defArgs st) (defBody st) (defScope st) .none kV doc pm an cdv ct) ⟨us, (ps.drop n).zip ws⟩ = pure (ps.zip (us ++ ws))
def PosB (x : Str) (st : Stmt) (ps : List Str) : Prop := ∀ (kV doc pm : Value) (an : Option Addr) (cdv ct : Value) (us : List Value), us.length = ps.length →
  bindArgs (PySem.W.fnOf x x (defArgs st) (defBody st) (defScope st) .none kV doc pm an cdv ct) ⟨us, []⟩ = pure (ps.zip us)
def eCallK (f : List PV → Sto → Res (PV × Sto)) (a b : FA) : FE := fun env S => (a env S).bind fun x => (b env x.2).bind fun y => f (x.1 ++ y.1) y.2
section
variable {ct : Ct} {X : Cx} {k : Nat} {ps : List Str} {f : List PV → Sto → Res (PV × Sto)} {x : Str} {st : Stmt} {e : Expr} {es : List Expr} {fa fk : FA} {pos p : Pos}
theorem call_of {K : PySem.W.Frag} {n : Nat} {G : Gh} {σ : L2.St} {env : Env} {H H1 : Hp} {S S1 S' : Sto} {A1 : List Addr} {xs : List PV} {vs : List V} {v : PV} {Q : VK} (gd : Good K ct G σ H env S) (p1 : Post G.A H A1 H1) (s1 : StoOk K ct H1 A1 G.M S1) (r1 : RepL K ct H1 A1 G.M xs vs) (hl : vs.length = n)
    (e : f xs S1 = .ok (v, S')) (q : ∀ x H' A', Post G.A H A' H' → StoOk K ct H' A' G.M S' → Rep K ct H' A' G.M v x → Q x H') : spM K ct n f vs H1 Q E0 :=
  ⟨hl, A1, G.M, xs, S1, v, S', (gd.post p1 s1).bs, r1, e, fun y H' A' p2 s2 r2 => q y H' A' (p1.trans p2) s2 r2⟩
theorem je_call (D : DefOk ct X.prog X.w X.K X.mg X.base x st k ps f) (hr : Room k X.A) (hG : X.A.guards = some []) (hP : PosB x st ps) (ha : JA ct X (e :: es) fa) (hn : (e :: es).length = ps.length := by rfl) (hl : ∀ env S xs S', fa env S = .ok (xs, S') → xs.length = (e :: es).length) (hg : Gl X x := by rfl) (hdb : (x == ("__debug__" : Str)) = false := by decide)
    (he : starEach (e :: es) X.env = (false, eval e X.env) :: starEach es X.env := by rfl) (hpl : (backTo pos (starEach es X.env)).any (·.1) = false := by rfl) : JE ct X (.Call (.Name x p) (e :: es) [] pos) (eCall f fa) := by
  obtain ⟨fad, fd, FD, hm, F⟩ := D
  refine ⟨⟨fun pins s σ H Q IZ h => ?_⟩⟩
  obtain ⟨G, env, S, v, S', gd, h1, q⟩ := h
  obtain ⟨⟨xs, S1⟩, e1, h1⟩ := Res.bind_ok h1
  refine wpAny_Call_Name_kw (ld_glob IZ hg hm ?_ hdb)
  have A0 : rdA X.K ct fa σ H (fun vs H1 => spM X.K ct ps.length f vs H1 Q E0) := ⟨G, env, S, xs, S1, gd, e1, fun vs H1 A1 p1 s1 r1 => call_of gd p1 s1 r1 (by rw [r1.length, hl _ _ _ _ e1, hn]) h1 q⟩
  refine PySem.W.callWith_K (h₀ := X.base) IZ.ok.mod.kin FD.kp (thn (ha.pa.run pos pins s σ H _ IZ A0) fun us s1 ⟨vs, H1, I1, r, q1⟩ => ⟨I1.kIn, ?_⟩) he hpl
  have hlu : us.length = ps.length := by rw [← r.length]; exact q1.1
  have hb : BindsTo s1 fd ⟨us, []⟩ (ps.zip us) := FD.bindsA hP s1 us hlu
  exact run_fnG F hr hG hb I1 r q1
theorem je_call0 (D : DefOk ct X.prog X.w X.K X.mg X.base x st k [] f) (hr : Room k X.A) (hG : X.A.guards = some []) (hP : PosB x st []) (hg : Gl X x := by rfl) (hdb : (x == ("__debug__" : Str)) = false := by decide) : JE ct X (.Call (.Name x p) [] [] pos) (eCall f aNil) := by
  obtain ⟨fad, fd, FD, hm, F⟩ := D
  refine ⟨⟨fun pins s σ H Q IZ h => ?_⟩⟩
  obtain ⟨G, env, S, v, S', gd, h1, q⟩ := h
  obtain ⟨⟨xs, S1⟩, e1, h1⟩ := Res.bind_ok h1
  cases e1
  refine wpAny_Call_Name_kw (ld_glob IZ hg hm ?_ hdb)
  have q1 : spM X.K ct 0 f [] H Q E0 := call_of gd (Post.refl H gd.bs.nodup) gd.bs.sto .nil rfl h1 q
  exact PySem.W.callWith_K0 IZ.kIn FD.kp (run_fnG (us := []) (uz := []) F hr hG (FD.bindsA hP s [] rfl) IZ .nil q1)
theorem je_callK {kws : List Keyword} (n : Nat) (D : DefOk ct X.prog X.w X.K X.mg X.base x st k ps f) (hr : Room k X.A) (hG : X.A.guards = some []) (hK : KwB x st ps n) (ha : JA ct X (e :: es) fa) (hk : JK ct X kws fk)
    (hl : ∀ env S xs S', fa env S = .ok (xs, S') → xs.length = n) (hl2 : ∀ env S xs S', fk env S = .ok (xs, S') → n + xs.length = ps.length)
    (hall : (backToKw pos (keywordEach kws X.env)).all (·.1.isSome) = true := by rfl) (hks : (backToKw pos (keywordEach kws X.env)).filterMap (·.1) = ps.drop n := by rfl) (hg : Gl X x := by rfl) (hdb : (x == ("__debug__" : Str)) = false := by decide)
    (he : starEach (e :: es) X.env = (false, eval e X.env) :: starEach es X.env := by rfl) (hpl : ((backTo pos (starEach (e :: es) X.env)).any (·.1) || (backToKw pos (keywordEach kws X.env)).any (·.1.isNone)) = false := by rfl) : JE ct X (.Call (.Name x p) (e :: es) kws pos) (eCallK f fa fk) := by
  obtain ⟨fad, fd, FD, hm, F⟩ := D
  refine ⟨⟨fun pins s σ H Q IZ h => ?_⟩⟩
  obtain ⟨G, env, S, v, S', gd, h1, q⟩ := h
  obtain ⟨⟨xs, S1⟩, e1, h1⟩ := Res.bind_ok h1
  obtain ⟨⟨zs, S2⟩, e2, h1⟩ := Res.bind_ok h1
  refine wpAny_Call_Name_kw (ld_glob IZ hg hm ?_ hdb)
  have A0 : rdA X.K ct fa σ H (fun vs H1 => rdA X.K ct fk σ H1 fun ws H2 => vs.length = n ∧ spM X.K ct ps.length f (vs ++ ws) H2 Q E0) := ⟨G, env, S, xs, S1, gd, e1, fun vs H1 A1 p1 s1 r1 => ⟨{ G with A := A1 }, env, S1, zs, S2, gd.post p1 s1, e2, fun ws H2 A2 p2 s2 r2 => ⟨by rw [r1.length, hl _ _ _ _ e1], call_of gd (p1.trans p2) s2 ((r1.lat (p2.lat G.M) xs vs).append r2) (by rw [List.length_append, r1.length, r2.length, hl _ _ _ _ e1, hl2 _ _ _ _ e2]) h1 q⟩⟩⟩
  refine PySem.W.callWith_KW (h₀ := X.base) IZ.ok.mod.kin FD.kp hall (thn (ha.pa.run pos pins s σ H _ IZ A0) fun us s1 ⟨vs, H1, I1, r, q1⟩ => ?_) hpl he
  refine thn (hk.pk.run pos pins s1 σ H1 _ I1 q1) fun ws s2 ⟨wv, H2, I2, rz, hvn, q2⟩ => ⟨I2.kIn, ?_⟩
  rw [hks]
  have l1 : us.length = n := by rw [← r.length]; exact hvn
  have l2 : us.length + ws.length = ps.length := by
    rw [← r.length, ← rz.length, ← List.length_append]; exact q2.1
  have hb : BindsTo s2 fd ⟨[] ++ us, (ps.drop n).zip ws⟩ (ps.zip (us ++ ws)) := by
    obtain ⟨oc, od, dV, kV, doc, pm, an, cdv, ctv, osl, rfl, lk, hcd, hDZ, hKK⟩ := FD.ex
    rcases hDZ with ⟨_, rfl⟩ | ⟨e, _⟩
    · exact .of_eq (hK kV doc pm an cdv ctv us ws l1 l2)
    · exact absurd rfl e
  exact run_fnG F hr hG hb I2 (r.append rz) q2
theorem je_callK0 {kws : List Keyword} (D : DefOk ct X.prog X.w X.K X.mg X.base x st k ps f) (hr : Room k X.A) (hG : X.A.guards = some []) (hK : KwB x st ps 0) (hk : JK ct X kws fk)
    (hl2 : ∀ env S xs S', fk env S = .ok (xs, S') → xs.length = ps.length)
    (hall : (backToKw pos (keywordEach kws X.env)).all (·.1.isSome) = true := by rfl) (hks : (backToKw pos (keywordEach kws X.env)).filterMap (·.1) = ps := by rfl) (hg : Gl X x := by rfl) (hdb : (x == ("__debug__" : Str)) = false := by decide)
    (hpl : ((backTo pos (starEach [] X.env)).any (·.1) || (backToKw pos (keywordEach kws X.env)).any (·.1.isNone)) = false := by rfl) : JE ct X (.Call (.Name x p) [] kws pos) (eCallK f aNil fk) := by
  obtain ⟨fad, fd, FD, hm, F⟩ := D
  refine ⟨⟨fun pins s σ H Q IZ h => ?_⟩⟩
  obtain ⟨G, env, S, v, S', gd, h1, q⟩ := h
  obtain ⟨⟨xs, S1⟩, e1, h1⟩ := Res.bind_ok h1
  cases e1
  obtain ⟨⟨zs, S2⟩, e2, h1⟩ := Res.bind_ok h1
  refine wpAny_Call_Name_kw (ld_glob IZ hg hm ?_ hdb)
  have A0 : rdA X.K ct fk σ H fun ws H2 => spM X.K ct ps.length f ws H2 Q E0 := ⟨G, env, _, zs, S2, gd, e2, fun ws H2 A2 p2 s2 r2 => call_of gd p2 s2 r2 (by rw [r2.length, hl2 _ _ _ _ e2]) h1 q⟩
  refine PySem.W.callWith_KW0 (h₀ := X.base) IZ.ok.mod.kin FD.kp hall (thn (hk.pk.run pos pins s σ H _ IZ A0) fun ws s2 ⟨wv, H2, I2, rz, q2⟩ => ⟨I2.kIn, ?_⟩) hpl
  rw [hks]
  have l2 : ws.length = ps.length := by rw [← rz.length]; exact q2.1
  have hb : BindsTo s2 fd ⟨[] ++ [], ps.zip ws⟩ (ps.zip ws) := by
    obtain ⟨oc, od, dV, kV, doc, pm, an, cdv, ctv, osl, rfl, lk, hcd, hDZ, hKK⟩ := FD.ex
    rcases hDZ with ⟨_, rfl⟩ | ⟨e, _⟩
    · exact .of_eq (hK kV doc pm an cdv ctv [] ws rfl (by simpa using l2))
    · exact absurd rfl e
  exact run_fnG F hr hG hb I2 rz q2
end
end J
set_option Elab.async false
set_option linter.all false
set_option maxRecDepth 100000
/-! J: operators and built-in functions by values. -/
namespace J
open PySem L2

section
variable {K : PySem.W.Frag} {ct : Ct} {H : Hp} {A M : List Addr}
theorem RepB.int {i : Int} {x : V} (h : RepB K ct H A M (.int i) x) : x = .int i := by
  rcases h with h | ⟨p, _, _, c⟩
  · exact Rep.int_iff.mp h
  · exact False.elim c
theorem RepB.bl {i : Bool} {x : V} (h : RepB K ct H A M (.bl i) x) : x = .bl i := by
  rcases h with h | ⟨p, _, _, c⟩
  · exact Rep.bl_iff.mp h
  · exact False.elim c
theorem RepB.str {i : Str} {x : V} (h : RepB K ct H A M (.str i) x) : x = .str i := by
  rcases h with h | ⟨p, _, _, c⟩
  · exact Rep.str_iff.mp h
  · exact False.elim c
theorem RepB.non {x : V} (h : RepB K ct H A M .non x) : x = .non := by
  rcases h with h | ⟨p, _, _, c⟩
  · exact Rep.non_iff.mp h
  · exact False.elim c
theorem RepB.tup {xs : List PV} {x : V} (h : RepB K ct H A M (.tup xs) x) : ∃ a vs, x = .ref a ∧ Vw H A M a (.tup vs) ∧ RepL K ct H A M xs vs := by
  rcases h with h | ⟨p, _, _, c⟩
  · exact h.tup_inv
  · exact False.elim c
theorem RepB.lst {xs : List PV} {x : V} (h : RepB K ct H A M (.lst xs) x) : ∃ a vs, x = .ref a ∧ H a = some (.lst vs) ∧ RepL K ct H A M xs vs := by
  rcases h with h | ⟨p, e, _, c⟩
  · obtain ⟨a, vs, h1, h2, h3⟩ := h.lst_inv
    exact ⟨a, vs, h1, h2.1, h3⟩
  · obtain ⟨vs, h1, h2⟩ := c
    exact ⟨p, vs, e, h1, h2⟩
theorem Hx.new_tup {xs : List PV} {vs : List V} {p : Addr} (hx : Hx A M H) (r : RepL K ct H A M xs vs) (np : H p = none) : Same H (upd H p (.tup vs)) ∧ Rep K ct (upd H p (.tup vs)) A M (.tup xs) (.ref p) := ⟨same_new np, Rep.new_tup r np hx.inA hx.inM hx.nd⟩
theorem Hx.new_lst {xs : List PV} {vs : List V} {p : Addr} (hx : Hx A M H) (r : RepL K ct H A M xs vs) (np : H p = none) : Same H (upd H p (.lst vs)) ∧ Rep K ct (upd H p (.lst vs)) A M (.lst xs) (.ref p) := ⟨same_new np, Rep.new_lst r np hx.inA hx.inM hx.nd⟩
end

/-! ### arithmetic -/
def okMul (i j : Int) : Bool := decide ((-(2 ^ 64) < i ∧ i < 2 ^ 64) ∨ (-(2 ^ 64) < j ∧ j < 2 ^ 64))
def pAdd : PV → PV → Option PV
  | .int i, .int j => some (.int (i + j))
  | .tup a, .tup b => if a.length + b.length ≤ 1000000 then some (.tup (a ++ b)) else none
  | .lst a, .lst b => if a.length + b.length ≤ 1000000 then some (.lst (a ++ b)) else none
  | .str a, .str b => if a.length + b.length ≤ 1000000 then some (.str (a ++ b)) else none
  | _, _ => none
def pSub : PV → PV → Option PV
  | .int i, .int j => some (.int (i - j))
  | _, _ => none
def pMul : PV → PV → Option PV
  | .int i, .int j => if okMul i j then some (.int (i * j)) else none
  | _, _ => none
def pMod : PV → PV → Option PV
  | .int i, .int j => if 0 < j then some (.int (i % j)) else none
  | _, _ => none
def pDiv : PV → PV → Option PV
  | .int i, .int j => if 0 < j ∧ j < 1073741824 then some (.int (i / j)) else none
  | _, _ => none
def pPow : PV → PV → Option PV
  | .int i, .int j => if 0 ≤ j ∧ j ≤ 1000 ∧ i.natAbs < 2 ^ 64 then some (.int (i ^ j.toNat)) else none
  | _, _ => none
def pNeg : PV → Option PV
  | .int i => some (.int (-i))
  | _ => none
def pCmp (f : Int → Int → Bool) : PV → PV → Option PV
  | .int i, .int j => some (.bl (f i j))
  | _, _ => none
abbrev pLt := pCmp fun i j => decide (i < j)
abbrev pLe := pCmp fun i j => decide (i ≤ j)
abbrev pGt := pCmp fun i j => decide (j < i)
abbrev pGe := pCmp fun i j => decide (j ≤ i)
/-- list + list, whatever stands there -/
def rAdd4 (K : PySem.W.Frag) : R2 := fun x y H Q => rI0 (fun i j => .int (i + j)) x y H Q ∨ rCatA K x y H Q ∨ rCat x y H Q ∨ ∃ i j, x = .str i ∧ y = .str j ∧ i.length + j.length ≤ sizeLine ∧ Q (.str (i ++ j)) H
section
variable {ct : Ct} {X : Cx} {K : PySem.W.Frag}
theorem or_add : OpR X (binaryOp .Add) (rAdd4 X.K) := op_add.or (op_catA.or (op_cat.or op_add_str))
theorem ok_add : OpOk K ct (rAdd4 K) pAdd := fun H A M x y vx vy v Q hx rx ry e q => by
  unfold pAdd at e
  split at e
  · cases e
    exact .inl ⟨_, _, rx.int, ry.int, q _ H (Same.refl H) (Rep.int_iff.mpr rfl)⟩
  · split at e
    · rename_i xs ys hz
      cases e
      obtain ⟨a, vs, rfl, h1, h2⟩ := rx.tup
      obtain ⟨b, ws, rfl, h3, h4⟩ := ry.tup
      have l1 := h2.length
      have l2 := h4.length
      refine .inr (.inl ⟨a, b, vs, ws, rfl, rfl, h1.sqT, h3.sqT, by rw [l1, l2]; exact sz_mil hz, fun e0 => ?_, fun _ e0 => ?_, fun _ _ p np => ?_⟩)
      · subst e0
        have : xs = [] := List.eq_nil_of_length_eq_zero (by simpa using l1.symm)
        subst this
        refine q _ H (Same.refl H) ?_
        simp only [Rep]
        exact ⟨b, ws, rfl, h3, h4⟩
      · subst e0
        have : ys = [] := List.eq_nil_of_length_eq_zero (by simpa using l2.symm)
        subst this
        refine q _ H (Same.refl H) ?_
        rw [List.append_nil]
        simp only [Rep]
        exact ⟨a, vs, rfl, h1, h2⟩
      · obtain ⟨k1, k2⟩ := hx.new_tup (h2.append h4) np
        exact q _ _ k1 k2
    · cases e
  · split at e
    · rename_i xs ys hz
      cases e
      obtain ⟨a, vs, rfl, h1, h2⟩ := rx.lst
      obtain ⟨b, ws, rfl, h3, h4⟩ := ry.lst
      refine .inr (.inr (.inl ⟨a, b, vs, ws, rfl, rfl, h1, h3, by rw [h2.length, h4.length]; exact sz_mil hz, fun p np => ?_⟩))
      obtain ⟨k1, k2⟩ := hx.new_lst (h2.append h4) np
      exact q _ _ k1 k2
    · cases e
  · split at e
    · rename_i xs ys hz
      cases e
      exact .inr (.inr (.inr ⟨_, _, rx.str, ry.str, sz_mil hz, q _ H (Same.refl H) (Rep.str_iff.mpr rfl)⟩))
    · cases e
  · cases e
theorem ok_sub : OpOk K ct (rI0 fun i j => .int (i - j)) pSub := fun H A M x y vx vy v Q hx rx ry e q => by
  unfold pSub at e
  split at e
  · cases e
    exact ⟨_, _, rx.int, ry.int, q _ H (Same.refl H) (Rep.int_iff.mpr rfl)⟩
  · cases e
theorem ok_mul : OpOk K ct (rI CMul fun i j => .int (i * j)) pMul := fun H A M x y vx vy v Q hx rx ry e q => by
  unfold pMul at e
  split at e
  · split at e
    · rename_i hz
      cases e
      exact ⟨_, _, rx.int, ry.int, by unfold okMul at hz; have h := of_decide_eq_true hz; exact h, q _ H (Same.refl H) (Rep.int_iff.mpr rfl)⟩
    · cases e
  · cases e
theorem ok_mod : OpOk K ct (rI (fun _ j => 0 < j) fun i j => .int (i % j)) pMod := fun H A M x y vx vy v Q hx rx ry e q => by
  unfold pMod at e
  split at e
  · split at e
    · rename_i hz
      cases e
      exact ⟨_, _, rx.int, ry.int, hz, q _ H (Same.refl H) (Rep.int_iff.mpr rfl)⟩
    · cases e
  · cases e
theorem ok_div : OpOk K ct (rI CDiv fun i j => .int (i / j)) pDiv := fun H A M x y vx vy v Q hx rx ry e q => by
  unfold pDiv at e
  split at e
  · split at e
    · rename_i hz
      cases e
      exact ⟨_, _, rx.int, ry.int, hz, q _ H (Same.refl H) (Rep.int_iff.mpr rfl)⟩
    · cases e
  · cases e
theorem ok_pow : OpOk K ct (rI CPow fun i j => .int (i ^ j.toNat)) pPow := fun H A M x y vx vy v Q hx rx ry e q => by
  unfold pPow at e
  split at e
  · split at e
    · rename_i hz
      cases e
      exact ⟨_, _, rx.int, ry.int, ⟨hz.1, by have := hz.2.1; omega, hz.2.2⟩, q _ H (Same.refl H) (Rep.int_iff.mpr rfl)⟩
    · cases e
  · cases e
theorem ok_cmp {f : Int → Int → Bool} : OpOk K ct (rI0 fun i j => .bl (f i j)) (pCmp f) := fun H A M x y vx vy v Q hx rx ry e q => by
  unfold pCmp at e
  split at e
  · cases e
    exact ⟨_, _, rx.int, ry.int, q _ H (Same.refl H) (Rep.bl_iff.mpr rfl)⟩
  · cases e
variable {a b c : Expr} {fa fb fc : FE} {pos : Pos}
theorem je_add (ha : JB ct X a fa) (hb : JB ct X b fb) : JE ct X (.BinOp a .Add b pos) (eOp pAdd fa fb) := je_op or_add ok_add ha hb
theorem je_sub (ha : JB ct X a fa) (hb : JB ct X b fb) : JE ct X (.BinOp a .Sub b pos) (eOp pSub fa fb) := je_op op_sub ok_sub ha hb
theorem je_mul (ha : JB ct X a fa) (hb : JB ct X b fb) : JE ct X (.BinOp a .Mult b pos) (eOp pMul fa fb) := je_op op_mul ok_mul ha hb
theorem je_mod (ha : JB ct X a fa) (hb : JB ct X b fb) : JE ct X (.BinOp a .Mod b pos) (eOp pMod fa fb) := je_op op_mod ok_mod ha hb
theorem je_div (ha : JB ct X a fa) (hb : JB ct X b fb) : JE ct X (.BinOp a .FloorDiv b pos) (eOp pDiv fa fb) := je_op op_fdiv ok_div ha hb
theorem je_pow (ha : JB ct X a fa) (hb : JB ct X b fb) : JE ct X (.BinOp a .Pow b pos) (eOp pPow fa fb) := je_op op_pow ok_pow ha hb
theorem je_neg (ha : JE ct X a fa) : JE ct X (.UnaryOp .USub a pos) (eUn pNeg fa) := je_un un_neg (fun H A M x vx v Q r e q => by
  cases vx with
  | int i => cases e; exact ⟨i, Rep.int_iff.mp r, q _ fun _ _ _ => Rep.int_iff.mpr rfl⟩
  | _ => cases e) ha
theorem je_lt (ha : JB ct X a fa) (hb : JB ct X b fb) : JE ct X (.Compare a [.Lt] [b] pos) (eOp pLt fa fb) := je_cmp op_lt ok_cmp ha hb
theorem je_le (ha : JB ct X a fa) (hb : JB ct X b fb) : JE ct X (.Compare a [.LtE] [b] pos) (eOp pLe fa fb) := je_cmp op_le ok_cmp ha hb
theorem je_gt (ha : JB ct X a fa) (hb : JB ct X b fb) : JE ct X (.Compare a [.Gt] [b] pos) (eOp pGt fa fb) := je_cmp op_gt ok_cmp ha hb
theorem je_ge (ha : JB ct X a fa) (hb : JB ct X b fb) : JE ct X (.Compare a [.GtE] [b] pos) (eOp pGe fa fb) := je_cmp op_ge ok_cmp ha hb
theorem jt_lt (ha : JB ct X a fa) (hb : JB ct X b fb) : JT ct X (.Compare a [.Lt] [b] pos) (tV (eOp pLt fa fb)) := jt_cmp op_lt ok_cmp ha hb
theorem jt_le (ha : JB ct X a fa) (hb : JB ct X b fb) : JT ct X (.Compare a [.LtE] [b] pos) (tV (eOp pLe fa fb)) := jt_cmp op_le ok_cmp ha hb
theorem jt_gt (ha : JB ct X a fa) (hb : JB ct X b fb) : JT ct X (.Compare a [.Gt] [b] pos) (tV (eOp pGt fa fb)) := jt_cmp op_gt ok_cmp ha hb
theorem jt_ge (ha : JB ct X a fa) (hb : JB ct X b fb) : JT ct X (.Compare a [.GtE] [b] pos) (tV (eOp pGe fa fb)) := jt_cmp op_ge ok_cmp ha hb
/-- a op b op' c -/
def eChain (op op' : PV → PV → Option PV) (a b c : FE) : FE := fun env S => (a env S).bind fun x => (b env x.2).bind fun y => (ofO (op x.1 y.1)).bind fun z => match z with
  | .bl true => (c env y.2).bind fun u => (ofO (op' y.1 u.1)).bind fun t => .ok (t, u.2)
  | .bl false => .ok (.bl false, y.2)
  | _ => .err
theorem rd_chain {op op' : PV → PV → Option PV} {r r' : R2} (ho : OpOk K ct r op) (ho' : OpOk K ct r' op') (hb1 : ∀ x y v, op x y = some v → ∃ k, v = .bl k) {σ : St} {H : Hp} {Q : VK} (h : rd K ct (eChain op op' fa fb fc) σ H Q) : tChain r r' (rd K ct fa) (rd K ct fb) (rd K ct fc) σ H Q := by
  obtain ⟨G, env, S, v, S', g, h1, q⟩ := h
  obtain ⟨⟨x, S1⟩, e1, h1⟩ := Res.bind_ok h1
  obtain ⟨⟨y, S2⟩, e2, h1⟩ := Res.bind_ok h1
  obtain ⟨z, e3, h1⟩ := Res.bind_ok h1
  refine ⟨G, env, S, x, S1, g, e1, fun x' H1 A1 p1 s1 r1 => ⟨{ G with A := A1 }, env, S1, y, _, g.post p1 s1, e2, fun y' H2 A2 p2 s2 r2 => ?_⟩⟩
  have g2 := (g.post p1 s1).post p2 s2
  have e3' := ofO_ok e3
  refine ho H2 A2 G.M x' y' x y z _ g2.hx (.inl (r1.lat (p2.lat G.M) x x')) (.inl r2) e3' fun z' H3 sm r3 => ?_
  obtain ⟨k, rfl⟩ := hb1 _ _ _ e3'
  refine ⟨k, Rep.bl_iff.mp r3, ?_⟩
  have p3 : Post A2 H2 A2 H3 := Post.grow g2.bs.nodup sm
  have s3 := s2.grow g2.bs.nodup sm
  cases k with
  | true =>
    rw [if_pos rfl]
    obtain ⟨⟨u, S4⟩, e4, h1⟩ := Res.bind_ok h1
    obtain ⟨t, e5, h1⟩ := Res.bind_ok h1
    cases h1
    refine ⟨_, env, S2, u, _, g2.post p3 s3, e4, fun u' H4 A4 p4 s4 r4 => ?_⟩
    have g4 := (g2.post p3 s3).post p4 s4
    refine ho' H4 A4 G.M y' u' y u v Q g4.hx (.inl ((r2.lat (p3.lat G.M) y y').lat (p4.lat G.M) y y')) (.inl r4) (ofO_ok e5) fun t' H5 sm5 r5 => ?_
    exact q _ H5 A4 ((((p1.trans p2).trans p3).trans p4).trans (Post.grow g4.bs.nodup sm5)) (s4.grow g4.bs.nodup sm5) r5
  | false =>
    rw [if_neg falseNe]
    cases h1
    exact q _ H3 A2 ((p1.trans p2).trans p3) s3 (Rep.bl_iff.mpr rfl)
theorem pCmp_bl {f : Int → Int → Bool} {x y v : PV} (h : pCmp f x y = some v) : ∃ k, v = .bl k := by
  unfold pCmp at h
  split at h
  · cases h; exact ⟨_, rfl⟩
  · cases h
theorem je_chain {op op' : CmpOp} {f f' : Int → Int → Bool} (ho : OpR X (compareOp op) (rI0 fun i j => .bl (f i j))) (ho' : OpR X (compareOp op') (rI0 fun i j => .bl (f' i j))) (ha : JE ct X a fa) (hb : JE ct X b fb) (hc : JE ct X c fc) (hm : lastMarks [op, op'] [b, c] = false := by with_unfolding_all rfl) :
    JE ct X (.Compare a [op, op'] [b, c] pos) (eChain (pCmp f) (pCmp f') fa fb fc) := ⟨(pe_chain ho ho' ha.pe hb.pe hc.pe hm).imp fun _ _ _ h => rd_chain ok_cmp ok_cmp (fun _ _ _ => pCmp_bl) h⟩
theorem jt_chain {op op' : CmpOp} {f f' : Int → Int → Bool} (ho : OpR X (compareOp op) (rI0 fun i j => .bl (f i j))) (ho' : OpR X (compareOp op') (rI0 fun i j => .bl (f' i j))) (ha : JE ct X a fa) (hb : JE ct X b fb) (hc : JE ct X c fc) (hm : lastMarks [op, op'] [b, c] = false := by with_unfolding_all rfl) :
    JT ct X (.Compare a [op, op'] [b, c] pos) (tV (eChain (pCmp f) (pCmp f') fa fb fc)) := ⟨(pt_chain ho ho' ha.pe hb.pe hc.pe hm).imp fun _ _ _ h => rdT_tTest (fun _ _ _ z => rd_chain ok_cmp ok_cmp (fun _ _ _ => pCmp_bl) z) h⟩
end

/-! ### equality of data -/
mutual
def isD : PV → Bool
  | .non => true
  | .bl _ => true
  | .int _ => true
  | .str x => PyData.strOk x
  | .tup xs => isDL xs
  | .lst xs => isDL xs
  | _ => false
def isDL : List PV → Bool
  | [] => true
  | x :: r => isD x && isDL r
end
mutual
def toD : PV → PyData
  | .bl b => .bool b
  | .int i => .int i
  | .str x => .str x
  | .tup xs => .tuple (toDL xs)
  | .lst xs => .list (toDL xs)
  | _ => .none
def toDL : List PV → List PyData
  | [] => []
  | x :: r => toD x :: toDL r
end
-- == as Python has it
mutual
def eqP : PV → PV → Bool
  | .non, .non => true
  | .bl a, .bl b => a == b
  | .bl a, .int j => (if a then 1 else 0) == j
  | .int i, .bl b => i == (if b then 1 else 0)
  | .int i, .int j => i == j
  | .str x, .str y => x == y
  | .lst xs, .lst ys => eqPL xs ys
  | .tup xs, .tup ys => eqPL xs ys
  | _, _ => false
def eqPL : List PV → List PV → Bool
  | [], [] => true
  | x :: xs, y :: ys => eqP x y && eqPL xs ys
  | _, _ => false
end
mutual
theorem eqv_toD : ∀ (a b : PV), isD a = true → isD b = true → PyData.eqv (toD a) (toD b) = eqP a b
  | .non, b, _, hb => by cases b <;> first | rfl | cases hb
  | .bl a, b, _, hb => by cases b <;> first | rfl | cases hb
  | .int a, b, _, hb => by cases b <;> first | rfl | cases hb
  | .str a, b, _, hb => by cases b <;> first | rfl | cases hb
  | .tup xs, b, ha, hb => by
    cases b with
    | tup ys =>
      simp only [toD, eqP, PyData.eqv]
      exact eqvAll_toD xs ys (by simpa only [isD] using ha) (by simpa only [isD] using hb)
    | dic _ _ _ => cases hb
    | ins _ _ => cases hb
    | obj _ => cases hb
    | scr _ => cases hb
    | _ => rfl
  | .lst xs, b, ha, hb => by
    cases b with
    | lst ys =>
      simp only [toD, eqP, PyData.eqv]
      exact eqvAll_toD xs ys (by simpa only [isD] using ha) (by simpa only [isD] using hb)
    | dic _ _ _ => cases hb
    | ins _ _ => cases hb
    | obj _ => cases hb
    | scr _ => cases hb
    | _ => rfl
  | .dic _ _ _, _, ha, _ => by cases ha
  | .ins _ _, _, ha, _ => by cases ha
  | .obj _, _, ha, _ => by cases ha
  | .scr _, _, ha, _ => by cases ha
theorem eqvAll_toD : ∀ (xs ys : List PV), isDL xs = true → isDL ys = true → PyData.eqvAll (toDL xs) (toDL ys) = eqPL xs ys
  | [], [], _, _ => rfl
  | [], _ :: _, _, _ => rfl
  | _ :: _, [], _, _ => rfl
  | x :: xs, y :: ys, hx, hy => by
    simp only [isDL, Bool.and_eq_true] at hx hy
    simp only [toDL, eqPL, PyData.eqvAll]
    rw [eqv_toD x y hx.1 hy.1, eqvAll_toD xs ys hx.2 hy.2]
end
mutual
def dpP : PV → Nat
  | .tup xs => dpPL xs + 1
  | .lst xs => dpPL xs + 1
  | _ => 0
def dpPL : List PV → Nat
  | [] => 0
  | x :: r => max (dpP x) (dpPL r)
end
mutual
theorem depth_toD : ∀ (a : PV), (toD a).depth = dpP a
  | .tup xs => by simp only [toD, dpP, PyData.depth]; rw [depth_toDL xs]
  | .lst xs => by simp only [toD, dpP, PyData.depth]; rw [depth_toDL xs]
  | .non => rfl
  | .bl _ => rfl
  | .int _ => rfl
  | .str _ => rfl
  | .dic _ _ _ => rfl
  | .ins _ _ => rfl
  | .obj _ => rfl
  | .scr _ => rfl
theorem depth_toDL : ∀ (xs : List PV), PyData.depthAll (toDL xs) = dpPL xs
  | [] => rfl
  | x :: r => by simp only [toDL, dpPL, PyData.depthAll]; rw [depth_toD x, depth_toDL r]
end
mutual
theorem lay_toD : ∀ (a : PV), isD a = true → (toD a).canLay0 = true
  | .tup xs, h => by simp only [toD, PyData.canLay0]; exact lay_toDL xs (by simpa only [isD] using h)
  | .lst xs, h => by simp only [toD, PyData.canLay0]; exact lay_toDL xs (by simpa only [isD] using h)
  | .non, _ => rfl
  | .bl _, _ => rfl
  | .int _, _ => rfl
  | .str _, h => h
  | .dic _ _ _, h => by cases h
  | .ins _ _, h => by cases h
  | .obj _, h => by cases h
  | .scr _, h => by cases h
theorem lay_toDL : ∀ (xs : List PV), isDL xs = true → PyData.canLayAll0 (toDL xs) = true
  | [], _ => rfl
  | x :: r, h => by
    simp only [isDL, Bool.and_eq_true] at h
    simp only [toDL, PyData.canLayAll0, Bool.and_eq_true]
    exact ⟨lay_toD x h.1, lay_toDL r h.2⟩
end
section
variable {K : PySem.W.Frag} {ct : Ct} {H : Hp} {A M : List Addr}
mutual
theorem Rep.dp : ∀ (v : PV) (x : V), isD v = true → Rep K ct H A M v x → Dp K H x (toD v)
  | .non, x, _, r => by rw [Rep.non_iff.mp r]; exact .non
  | .bl b, x, _, r => by rw [Rep.bl_iff.mp r]; exact .bl b
  | .int i, x, _, r => by rw [Rep.int_iff.mp r]; exact .int i
  | .str i, x, _, r => by rw [Rep.str_iff.mp r]; exact .str i
  | .tup xs, x, h, r => by
    obtain ⟨a, vs, rfl, h1, h2⟩ := r.tup_inv
    simp only [toD]
    exact .tup h1.sqT (RepL.dp xs vs (by simpa only [isD] using h) h2)
  | .lst xs, x, h, r => by
    obtain ⟨a, vs, rfl, h1, h2⟩ := r.lst_inv
    simp only [toD]
    exact .lst h1.sqL (RepL.dp xs vs (by simpa only [isD] using h) h2)
  | .dic _ _ _, _, h, _ => by cases h
  | .ins _ _, _, h, _ => by cases h
  | .obj _, _, h, _ => by cases h
  | .scr _, _, h, _ => by cases h
theorem RepL.dp : ∀ (xs : List PV) (vs : List V), isDL xs = true → RepL K ct H A M xs vs → DpAll K H vs (toDL xs)
  | [], vs, _, r => by rw [RepL.nil_iff.mp r]; exact .nil
  | x :: xs, vs, h, r => by
    obtain ⟨v, ws, rfl, h1, h2⟩ := r.inv
    simp only [isDL, Bool.and_eq_true] at h
    simp only [toDL]
    exact .cons (Rep.dp x v h.1 h1) (RepL.dp xs ws h.2 h2)
end
theorem RepB.dp {v : PV} {x : V} (h : isD v = true) (r : RepB K ct H A M v x) : Dp K H x (toD v) := by
  rcases r with r | ⟨p, rfl, _, c⟩
  · exact r.dp v x h
  · cases v with
    | lst xs =>
      obtain ⟨vs, h1, h2⟩ := c
      simp only [toD]
      exact .lst (.inl (.inl h1)) (RepL.dp xs vs (by simpa only [isD] using h) h2)
    | dic _ _ _ => cases h
    | _ => exact False.elim c
end
def dOK (v : PV) : Bool := isD v && decide (dpP v ≤ 60)
theorem dOK.shaped {v : PV} (h : dOK v = true) : isD v = true ∧ SeqAt.shaped (toD v) = true := by
  unfold dOK at h
  simp only [Bool.and_eq_true, decide_eq_true_eq (p := dpP v ≤ 60)] at h
  refine ⟨h.1, ?_⟩
  unfold SeqAt.shaped
  rw [Bool.and_eq_true, decide_eq_true_eq, depth_toD]
  exact ⟨lay_toD v h.1, Nat.le_trans h.2 (by decide)⟩
def pEq (a b : PV) : Option PV := if dOK a && dOK b then some (.bl (eqP a b)) else none
def pNe (a b : PV) : Option PV := if dOK a && dOK b then some (.bl (!eqP a b)) else none
section
variable {ct : Ct} {X : Cx} {K : PySem.W.Frag} {a b : Expr} {fa fb : FE} {pos : Pos}
theorem ok_eq : OpOk K ct (rEqD K) pEq := fun H A M x y vx vy v Q hx rx ry e q => by
  unfold pEq at e
  split at e
  · rename_i h
    cases e
    rw [Bool.and_eq_true] at h
    obtain ⟨a1, a2⟩ := dOK.shaped h.1
    obtain ⟨b1, b2⟩ := dOK.shaped h.2
    refine ⟨_, _, rx.dp a1, ry.dp b1, a2, b2, ?_⟩
    rw [eqv_toD _ _ a1 b1]
    exact q _ H (Same.refl H) (Rep.bl_iff.mpr rfl)
  · cases e
theorem ok_ne : OpOk K ct (rNeD K) pNe := fun H A M x y vx vy v Q hx rx ry e q => by
  unfold pNe at e
  split at e
  · rename_i h
    cases e
    rw [Bool.and_eq_true] at h
    obtain ⟨a1, a2⟩ := dOK.shaped h.1
    obtain ⟨b1, b2⟩ := dOK.shaped h.2
    refine ⟨_, _, rx.dp a1, ry.dp b1, a2, b2, ?_⟩
    rw [eqv_toD _ _ a1 b1]
    exact q _ H (Same.refl H) (Rep.bl_iff.mpr rfl)
  · cases e
theorem je_eq {k : Nat} (hr : Room k X.A) (ha : JB ct X a fa) (hb : JB ct X b fb) : JE ct X (.Compare a [.Eq] [b] pos) (eOp pEq fa fb) := je_cmp (op_eqD hr.units) ok_eq ha hb
theorem je_ne {k : Nat} (hr : Room k X.A) (ha : JB ct X a fa) (hb : JB ct X b fb) : JE ct X (.Compare a [.NotEq] [b] pos) (eOp pNe fa fb) := je_cmp (op_neD hr.units) ok_ne ha hb
theorem jt_eq {k : Nat} (hr : Room k X.A) (ha : JB ct X a fa) (hb : JB ct X b fb) : JT ct X (.Compare a [.Eq] [b] pos) (tV (eOp pEq fa fb)) := jt_cmp (op_eqD hr.units) ok_eq ha hb
theorem jt_ne {k : Nat} (hr : Room k X.A) (ha : JB ct X a fa) (hb : JB ct X b fb) : JT ct X (.Compare a [.NotEq] [b] pos) (tV (eOp pNe fa fb)) := jt_cmp (op_neD hr.units) ok_ne ha hb
/-- is None, is not None -/
def nonP : PV → Bool
  | .non => true
  | _ => false
def pIsN : PV → PV → Option PV
  | x, .non => some (.bl (nonP x))
  | _, _ => none
def pNotN : PV → PV → Option PV
  | x, .non => some (.bl (!nonP x))
  | _, _ => none
theorem RepB.isNon {H : Hp} {A M : List Addr} {v : PV} {x : V} (r : RepB K ct H A M v x) : decide (x = .non) = nonP v := by
  cases v with
  | non => have e := r.non; subst e; rfl
  | bl b => have e := r.bl; subst e; rfl
  | int b => have e := r.int; subst e; rfl
  | str b => have e := r.str; subst e; rfl
  | tup xs => obtain ⟨_, _, rfl, _⟩ := r.tup; rfl
  | lst xs => obtain ⟨_, _, rfl, _⟩ := r.lst; rfl
  | dic t ks xs =>
    rcases r with r | ⟨p, rfl, _⟩
    · simp only [Rep] at r
      obtain ⟨a, rfl, _⟩ := r
      rfl
    · rfl
  | ins c fs =>
    rcases r with r | ⟨p, rfl, _⟩
    · simp only [Rep] at r
      obtain ⟨a, _, _, _, _, rfl, _⟩ := r
      rfl
    · rfl
  | obj n =>
    rcases r with r | ⟨p, rfl, _⟩
    · simp only [Rep] at r
      obtain ⟨a, rfl, _⟩ := r
      rfl
    · rfl
  | scr n =>
    rcases r with r | ⟨p, rfl, _⟩
    · simp only [Rep] at r
      obtain ⟨a, rfl, _⟩ := r
      rfl
    · rfl
theorem ok_isN : OpOk K ct (fun x y H Q => y = .non ∧ Q (.bl (decide (x = .non))) H) pIsN := fun H A M x y vx vy v Q hx rx ry e q => by
  cases vy with
  | non =>
    cases e
    refine ⟨ry.non, ?_⟩
    rw [rx.isNon]
    exact q _ H (Same.refl H) (Rep.bl_iff.mpr rfl)
  | _ => cases e
theorem ok_notN : OpOk K ct (fun x y H Q => y = .non ∧ Q (.bl (!decide (x = .non))) H) pNotN := fun H A M x y vx vy v Q hx rx ry e q => by
  cases vy with
  | non =>
    cases e
    refine ⟨ry.non, ?_⟩
    rw [rx.isNon]
    exact q _ H (Same.refl H) (Rep.bl_iff.mpr rfl)
  | _ => cases e
theorem je_is (ha : JB ct X a fa) (hb : JB ct X b fb) : JE ct X (.Compare a [.Is] [b] pos) (eOp pIsN fa fb) := je_cmp op_isN ok_isN ha hb
theorem jt_is (ha : JB ct X a fa) (hb : JB ct X b fb) : JT ct X (.Compare a [.Is] [b] pos) (tV (eOp pIsN fa fb)) := jt_cmp op_isN ok_isN ha hb
theorem je_isnot (ha : JB ct X a fa) (hb : JB ct X b fb) : JE ct X (.Compare a [.IsNot] [b] pos) (eOp pNotN fa fb) := je_cmp op_notN ok_notN ha hb
theorem jt_isnot (ha : JB ct X a fa) (hb : JB ct X b fb) : JT ct X (.Compare a [.IsNot] [b] pos) (tV (eOp pNotN fa fb)) := jt_cmp op_notN ok_notN ha hb
end
end J
set_option Elab.async false
set_option linter.all false
set_option maxRecDepth 100000
/-! J: subscripts, slices, membership, dicts read. -/
namespace J
open PySem L2

theorem _root_.L2.PE.or {X : Cx} {e : Expr} {t t' : TE} (h : PE X e t) (h' : PE X e t') : PE X e (fun σ H Q => t σ H Q ∨ t' σ H Q) := ⟨fun pins s σ H Q I q => q.elim (h.run pins s σ H Q I) (h'.run pins s σ H Q I)⟩
theorem _root_.L2.PC.or {X : Cx} {op : CmpOp} {a b : Expr} {t t' : TE} (h : PC X op a b t) (h' : PC X op a b t') : PC X op a b (fun σ H Q => t σ H Q ∨ t' σ H Q) := ⟨fun pins s σ H Q I q => q.elim (h.run pins s σ H Q I) (h'.run pins s σ H Q I)⟩

/-! ### dicts, read -/
def keyOf : PV → Option Key
  | .int i => some (.inl i)
  | .str x => some (.inr x)
  | _ => none
def keysOf : List PV → Option (List Key)
  | [] => some []
  | p :: r => (keyOf p).bind fun k => (keysOf r).map fun ks => k :: ks
theorem keyOf_eq {p : PV} {k : Key} (h : keyOf p = some k) : p = keyV k := by
  cases p with
  | int i => cases h; rfl
  | str i => cases h; rfl
  | _ => cases h
theorem keysOf_eq : ∀ {ps : List PV} {ks : List Key}, keysOf ps = some ks → ps = ks.map keyV
  | [], ks, h => by cases h; rfl
  | p :: r, ks, h => by
    unfold keysOf at h
    obtain ⟨k, e1, h⟩ := Option.bind_eq_some_iff.mp h
    obtain ⟨l, e2, rfl⟩ := Option.map_eq_some_iff.mp h
    rw [keyOf_eq e1, keysOf_eq e2]; rfl
theorem keyV_inj {a b : Key} (h : keyV a = keyV b) : a = b := by
  cases a <;> cases b <;> cases h <;> rfl
theorem mapKey_inj : ∀ {a b : List Key}, a.map keyV = b.map keyV → a = b
  | [], [], _ => rfl
  | [], _ :: _, hZ => by cases hZ
  | _ :: _, [], hZ => by cases hZ
  | x :: a, y :: b, hZ => by
    simp only [List.map_cons, List.cons.injEq] at hZ
    rw [keyV_inj hZ.1, mapKey_inj hZ.2]
theorem tupKey_inj {a b : List Key} (h : PV.tup (a.map keyV) = PV.tup (b.map keyV)) : a = b := mapKey_inj (PV.tup.inj h)
def dGet : List PV → List PV → PV → Option PV
  | k' :: ks, v :: vs, k => if k' = k then some v else dGet ks vs k
  | _, _, _ => none
/-- a key that a dict of this kind takes -/
def keyFit (t : Bool) (k : PV) : Bool := match t, k with
  | false, p => (keyOf p).isSome
  | true, .tup ps => (keysOf ps).isSome
  | _, _ => false
section
variable {K : PySem.W.Frag} {ct : Ct} {H : Hp} {A M : List Addr}
theorem dGet_val {κ : Type} [DecidableEq κ] {e : κ → PV} (inj : ∀ a b, e a = e b → a = b) (k : κ) : ∀ (ws : List (κ × V)) (vs : List PV), RepL K ct H A M vs (ws.map (·.2)) →
    (∃ v x, dGet (ws.map fun w => e w.1) vs (e k) = some v ∧ valV ws k = some x ∧ Rep K ct H A M v x) ∨ (dGet (ws.map fun w => e w.1) vs (e k) = none ∧ valV ws k = none)
  | [], vs, r => .inr ⟨by unfold dGet; rfl, rfl⟩
  | w :: ws, vs, r => by
    cases vs with
    | nil => have := r.length; simp at this
    | cons v vs =>
      obtain ⟨x, xs, e0, h1, h2⟩ := r.inv
      simp only [List.map_cons, List.cons.injEq] at e0
      obtain ⟨e1, e2⟩ := e0
      subst e1 e2
      simp only [List.map_cons, dGet]
      by_cases hk : w.1 = k
      · left
        refine ⟨v, w.2, by rw [if_pos (by rw [hk])], valV_pos hk, h1⟩
      · rw [if_neg (fun z => hk (inj _ _ z)), valV_neg hk]
        exact dGet_val inj k ws vs h2
theorem RepL.keys : ∀ {ks : List Key} {vs : List V}, RepL K ct H A M (ks.map keyV) vs → vs = ks.map kV
  | [], vs, h => by rw [RepL.nil_iff.mp h]; rfl
  | k :: ks, vs, h => by
    obtain ⟨v, r, rfl, h1, h2⟩ := RepL.inv (by simpa only [List.map_cons] using h)
    rw [h2.keys]
    cases k with
    | inl i => rw [show keyV (.inl i) = .int i from rfl] at h1; rw [Rep.int_iff.mp h1]; rfl
    | inr i => rw [show keyV (.inr i) = .str i from rfl] at h1; rw [Rep.str_iff.mp h1]; rfl
theorem RepL.of_keys : ∀ (ks : List Key), RepL K ct H A M (ks.map keyV) (ks.map kV)
  | [] => .nil
  | .inl i :: ks => .cons (Rep.int_iff.mpr rfl) (RepL.of_keys ks)
  | .inr i :: ks => .cons (Rep.str_iff.mpr rfl) (RepL.of_keys ks)
theorem Rep.key {k : Key} {x : V} (h : Rep K ct H A M (keyV k) x) : x = kV k := by
  cases k with
  | inl i => exact Rep.int_iff.mp h
  | inr i => exact Rep.str_iff.mp h
/-- what a dict says of a key -/
theorem dict_get {t : Bool} {ks vs : List PV} {x : V} {k : PV} {y : V} (r : RepB K ct H A M (.dic t ks vs) x) (ry : Rep K ct H A M k y) (hf : keyFit t k = true) :
    ∃ a o, x = .ref a ∧ DGet H a y o ∧ ((∃ v z, dGet ks vs k = some v ∧ o = some z ∧ Rep K ct H A M v z) ∨ (dGet ks vs k = none ∧ o = none)) := by
  have both : ∃ a, x = .ref a ∧ ((t = false ∧ ∃ ws : List (Key × V), Rd H a (.dK ws) ∧ ks = ws.map (fun w => keyV w.1) ∧ RepL K ct H A M vs (ws.map (·.2))) ∨
      t = true ∧ ∃ ws : List (List Key × V), Rd H a (.dT ws) ∧ ks = ws.map (fun w => .tup (w.1.map keyV)) ∧ RepL K ct H A M vs (ws.map (·.2))) := by
    rcases r with r | ⟨p, rfl, _, c⟩
    · simp only [Rep] at r
      obtain ⟨a, rfl, r⟩ := r
      rcases r with ⟨ht, ws, h1, h2, h3⟩ | ⟨ht, ws, h1, h2, h3⟩
      · exact ⟨a, rfl, .inl ⟨ht, ws, h1.rd, h2, h3⟩⟩
      · exact ⟨a, rfl, .inr ⟨ht, ws, h1.rd, h2, h3⟩⟩
    · rcases c with ⟨ht, ws, h1, h2, h3⟩ | ⟨ht, ws, h1, h2, h3⟩
      · exact ⟨p, rfl, .inl ⟨ht, ws, .inl h1, h2, h3⟩⟩
      · exact ⟨p, rfl, .inr ⟨ht, ws, .inl h1, h2, h3⟩⟩
  obtain ⟨a, rfl, both⟩ := both
  rcases both with ⟨rfl, ws, h1, rfl, h3⟩ | ⟨rfl, ws, h1, rfl, h3⟩
  · have hf : (keyOf k).isSome = true := hf
    obtain ⟨k', hk'⟩ := Option.isSome_iff_exists.mp hf
    have ek := keyOf_eq hk'
    subst ek
    have ey := ry.key
    subst ey
    refine ⟨a, valV ws k', rfl, .inl ⟨ws, k', h1, rfl, rfl⟩, ?_⟩
    rcases dGet_val (e := keyV) (fun _ _ z => keyV_inj z) k' ws vs h3 with ⟨v, z, e1, e2, e3⟩ | ⟨e1, e2⟩
    · exact .inl ⟨v, z, e1, e2, e3⟩
    · exact .inr ⟨e1, e2⟩
  · cases k with
    | tup ps =>
      have hf : (keysOf ps).isSome = true := hf
      obtain ⟨k', hk'⟩ := Option.isSome_iff_exists.mp hf
      have ek := keysOf_eq hk'
      subst ek
      obtain ⟨b, us, rfl, hb, hu⟩ := ry.tup_inv
      have eu := hu.keys
      subst eu
      refine ⟨a, valV ws k', rfl, .inr ⟨ws, k', b, h1, rfl, hb.1, rfl⟩, ?_⟩
      rcases dGet_val (e := fun l : List Key => PV.tup (l.map keyV)) (fun _ _ z => tupKey_inj z) k' ws vs h3 with ⟨v, z, e1, e2, e3⟩ | ⟨e1, e2⟩
      · exact .inl ⟨v, z, e1, e2, e3⟩
      · exact .inr ⟨e1, e2⟩
    | _ => cases hf
end

/-! ### subscripts -/
def pIx : PV → PV → Option PV
  | .lst xs, .int i => atI xs i
  | .tup xs, .int i => atI xs i
  | .scr ns, .int i => (atI ns i).map PV.int
  | .str z, .int i => if z.length ≤ 1000000 then (atI z.cps.toList i).map fun c => .str ⟨#[c]⟩ else none
  | .dic t ks vs, k => if keyFit t k then dGet ks vs k else none
  | _, _ => none
def eIx (a b : FE) : FE := fun env S => (a env S).bind fun x => (b env x.2).bind fun y => match x.1 with
  | .obj n => (ofO ((y.2[n]?).bind fun xs => pIx (.lst xs) y.1)).bind fun z => .ok (z, y.2)
  | v => (ofO (pIx v y.1)).bind fun z => .ok (z, y.2)
section
variable {K : PySem.W.Frag} {ct : Ct} {H : Hp} {A M : List Addr}
theorem atI_rep {xs : List PV} {vs : List V} {i : Int} {v : PV} (r : RepL K ct H A M xs vs) (h : atI xs i = some v) : ∃ x, atI vs i = some x ∧ Rep K ct H A M v x := by
  unfold atI at h ⊢
  rw [r.length]
  obtain ⟨j, e1, e2⟩ := Option.bind_eq_some_iff.mp h
  obtain ⟨x, e3, rx⟩ := r.get e2
  exact ⟨x, by rw [e1]; exact e3, rx⟩
theorem atI_map {α β : Type} {f : α → β} {xs : List α} {i : Int} {v : α} (h : atI xs i = some v) : atI (xs.map f) i = some (f v) := by
  unfold atI at h ⊢
  rw [List.length_map]
  obtain ⟨j, e1, e2⟩ := Option.bind_eq_some_iff.mp h
  rw [e1]
  show (xs.map f)[j]? = some (f v)
  rw [List.getElem?_map, e2]; rfl
end
section
variable {ct : Ct} {X : Cx} {a b : Expr} {fa fb : FE} {pos : Pos}
theorem je_ix {k : Nat} (hr : Room k X.A) (ha : JB ct X a fa) (hb : JE ct X b fb) (hs : PlainIx b := by exact fun _ _ => rfl) : JE ct X (.Subscript a b pos) (eIx fa fb) := by
  refine ⟨((pe_ix ix_seq ha.pe hb.pe hs).or (pe_dget (hu_of hr) ha.pe hb.pe hs)).imp fun σ H Q h => ?_⟩
  obtain ⟨G, env, S, v, S', g, h1, q⟩ := h
  obtain ⟨⟨x, S1⟩, e1, h1⟩ := Res.bind_ok h1
  obtain ⟨⟨y, S2⟩, e2, h1⟩ := Res.bind_ok h1
  -- the two operands
  have two : ∀ (R : V → V → Hp → Prop), (∀ x' y' H2 A2, Post G.A H A2 H2 → StoOk X.K ct H2 A2 G.M S2 → RepB X.K ct H2 A2 G.M x x' → Rep X.K ct H2 A2 G.M y y' → R x' y' H2) →
      rdB X.K ct fa σ H fun x' H1 => rd X.K ct fb σ H1 fun y' H2 => R x' y' H2 := fun R hR =>
    ⟨G, env, S, x, S1, g, e1, fun x' H1 A1 p1 s1 r1 => ⟨{ G with A := A1 }, env, S1, y, S2, g.post p1 s1, e2, fun y' H2 A2 p2 s2 r2 => hR x' y' H2 A2 (p1.trans p2) s2 (r1.lat p2 (g.post p1 s1).bs.disj) r2⟩⟩
  cases x with
  | obj n =>
    obtain ⟨z, e3, h1⟩ := Res.bind_ok h1
    cases h1
    obtain ⟨xs, e4, e5⟩ := Option.bind_eq_some_iff.mp (ofO_ok e3)
    refine .inl (two _ fun x' y' H2 A2 p s rx ry => ?_)
    cases y with
    | int i =>
      rcases rx with rx | ⟨_, _, _, c⟩
      · simp only [Rep] at rx
        obtain ⟨ad, rfl, hA⟩ := rx
        obtain ⟨vs, k1, k2⟩ := s.at' n ad xs hA e4
        obtain ⟨w, k3, k4⟩ := atI_rep k2 e5
        exact .inl ⟨ad, vs, i, w, rfl, Rep.int_iff.mp ry, .inl (.inl k1), k3, q w H2 A2 p s k4⟩
      · exact False.elim c
    | _ => cases e5
  | lst xs =>
    obtain ⟨z, e3, h1⟩ := Res.bind_ok h1
    cases h1
    refine .inl (two _ fun x' y' H2 A2 p s rx ry => ?_)
    cases y with
    | int i =>
      obtain ⟨ad, vs, rfl, k1, k2⟩ := rx.lst
      obtain ⟨w, k3, k4⟩ := atI_rep k2 (ofO_ok e3)
      exact .inl ⟨ad, vs, i, w, rfl, Rep.int_iff.mp ry, .inl (.inl k1), k3, q w H2 A2 p s k4⟩
    | _ => cases e3
  | tup xs =>
    obtain ⟨z, e3, h1⟩ := Res.bind_ok h1
    cases h1
    refine .inl (two _ fun x' y' H2 A2 p s rx ry => ?_)
    cases y with
    | int i =>
      obtain ⟨ad, vs, rfl, k1, k2⟩ := rx.tup
      obtain ⟨w, k3, k4⟩ := atI_rep k2 (ofO_ok e3)
      exact .inr (.inl ⟨ad, vs, i, w, rfl, Rep.int_iff.mp ry, k1.sqT, k3, q w H2 A2 p s k4⟩)
    | _ => cases e3
  | scr ns =>
    obtain ⟨z, e3, h1⟩ := Res.bind_ok h1
    cases h1
    refine .inl (two _ fun x' y' H2 A2 p s rx ry => ?_)
    cases y with
    | int i =>
      rcases rx with rx | ⟨_, _, _, c⟩
      · obtain ⟨ad, rfl, k1, _⟩ := rx.scr_inv
        obtain ⟨j, e4, rfl⟩ := Option.map_eq_some_iff.mp (ofO_ok e3)
        exact .inl ⟨ad, _, i, _, rfl, Rep.int_iff.mp ry, k1, atI_map e4, q _ H2 A2 p s (Rep.int_iff.mpr rfl)⟩
      · exact False.elim c
    | _ => cases e3
  | str z0 =>
    obtain ⟨z, e3, h1⟩ := Res.bind_ok h1
    cases h1
    refine .inl (two _ fun x' y' H2 A2 p s rx ry => ?_)
    cases y with
    | int i =>
      have e4 := ofO_ok e3
      unfold pIx at e4
      dsimp only at e4
      split at e4
      · rename_i hz
        obtain ⟨c, e5, rfl⟩ := Option.map_eq_some_iff.mp e4
        exact .inr (.inr ⟨z0, i, c, rx.str, Rep.int_iff.mp ry, sz_mil hz, e5, q _ H2 A2 p s (Rep.str_iff.mpr rfl)⟩)
      · cases e4
    | _ => cases e3
  | dic t ks vs =>
    obtain ⟨z, e3, h1⟩ := Res.bind_ok h1
    cases h1
    refine .inr (two _ fun x' y' H2 A2 p s rx ry => ?_)
    have e4 := ofO_ok e3
    unfold pIx at e4
    dsimp only at e4
    split at e4
    · rename_i hf
      obtain ⟨ad, o, rfl, dg, c⟩ := dict_get rx ry hf
      rcases c with ⟨v', z', c1, rfl, c3⟩ | ⟨c1, _⟩
      · rw [e4] at c1; cases c1
        exact ⟨ad, z', rfl, dg, q z' H2 A2 p s c3⟩
      · rw [e4] at c1; cases c1
    · cases e4
  | non => obtain ⟨z, e3, h1⟩ := Res.bind_ok h1; cases e3
  | bl _ => obtain ⟨z, e3, h1⟩ := Res.bind_ok h1; cases e3
  | int _ => obtain ⟨z, e3, h1⟩ := Res.bind_ok h1; cases e3
  | ins _ _ => obtain ⟨z, e3, h1⟩ := Res.bind_ok h1; cases e3
end
/-! ### slices -/
def cutP {α : Type} (xs : List α) (lo hi : Option Int) : List α := (xs.drop (HT.sIx xs.length 0 lo)).take (HT.sIx xs.length xs.length hi - HT.sIx xs.length 0 lo)
def pSl (v : PV) (lo hi : Option Int) : Option PV := match v with
  | .lst xs => some (.lst (cutP xs lo hi))
  | .tup xs => some (.tup (cutP xs lo hi))
  | .scr ns => some (.lst ((cutP ns lo hi).map PV.int))
  | .str z => if z.length ≤ 1000000 then some (.str (cutS z lo hi)) else none
  | _ => none
abbrev FO := Env → Sto → Res (Option Int × Sto)
def oNo : FO := fun _ S => .ok (none, S)
def oSo (a : FE) : FO := fun env S => (a env S).bind fun x => match x.1 with
  | .int i => .ok (some i, x.2)
  | _ => .err
def eSl (a : FE) (l h : FO) : FE := fun env S => (a env S).bind fun x => (l env x.2).bind fun y => (h env y.2).bind fun z => (ofO (pSl x.1 y.1 z.1)).bind fun r => .ok (r, z.2)
section
variable (K : PySem.W.Frag) (ct : Ct)
def rdO (f : FO) : TO := fun σ H Q => ∃ G env S v S', Good K ct G σ H env S ∧ f env S = .ok (v, S') ∧ ∀ H' A', Post G.A H A' H' → StoOk K ct H' A' G.M S' → Q v H'
end
structure JO (ct : Ct) (X : Cx) (e : Option Expr) (f : FO) : Prop where
  po : PO X e (rdO X.K ct f)
theorem _root_.L2.PO.imp {X : Cx} {e : Option Expr} {t t' : TO} (h : PO X e t) (i : ∀ σ H Q, t' σ H Q → t σ H Q) : PO X e t' := ⟨fun pins s σ H Q I q => h.run pins s σ H Q I (i σ H Q q)⟩
section
variable {ct : Ct} {X : Cx} {a b : Expr} {fa fb : FE} {pos : Pos} {lo hi : Option Expr} {fl fh : FO} {p2 : Pos}
theorem jo_none : JO ct X none oNo := ⟨po_none.imp fun σ H Q h => by
  obtain ⟨G, env, S, v, S', g, h1, q⟩ := h
  cases h1
  exact q H G.A (Post.refl H g.bs.nodup) g.bs.sto⟩
theorem jo_some (ha : JE ct X a fa) : JO ct X (some a) (oSo fa) := ⟨(po_some ha.pe).imp fun σ H Q h => by
  obtain ⟨G, env, S, v, S', g, h1, q⟩ := h
  obtain ⟨⟨x, S1⟩, e1, h1⟩ := Res.bind_ok h1
  refine ⟨G, env, S, x, S1, g, e1, fun x' H1 A1 p1 s1 r1 => ?_⟩
  cases x with
  | int i => cases h1; exact ⟨i, Rep.int_iff.mp r1, q H1 A1 p1 s1⟩
  | _ => cases h1⟩
theorem cutP_rep {K : PySem.W.Frag} {H : Hp} {A M : List Addr} {xs : List PV} {vs : List V} {lo hi : Option Int} (r : RepL K ct H A M xs vs) : RepL K ct H A M (cutP xs lo hi) (cutV vs lo hi) := by
  unfold cutP cutV
  rw [r.length]
  exact (r.drop _).take _
theorem cutV_map {α : Type} {f : α → V} {xs : List α} {lo hi : Option Int} : cutV (xs.map f) lo hi = (cutP xs lo hi).map f := by
  unfold cutP cutV
  rw [List.length_map, List.map_take, List.map_drop]
theorem je_sl (ha : JB ct X a fa) (hl : JO ct X lo fl) (hh : JO ct X hi fh) : JE ct X (.Subscript a (.Slice lo hi none p2) pos) (eSl fa fl fh) := by
  refine ⟨(pe_slice (sl_list.or (sl_tupA.or sl_str)) ha.pe hl.po hh.po).imp fun σ H Q h => ?_⟩
  obtain ⟨G, env, S, v, S', g, h1, q⟩ := h
  obtain ⟨⟨x, S1⟩, e1, h1⟩ := Res.bind_ok h1
  obtain ⟨⟨y, S2⟩, e2, h1⟩ := Res.bind_ok h1
  obtain ⟨⟨z, S3⟩, e3, h1⟩ := Res.bind_ok h1
  obtain ⟨r, e4, h1⟩ := Res.bind_ok h1
  cases h1
  refine ⟨G, env, S, x, S1, g, e1, fun x' H1 A1 p1 s1 r1 => ⟨{ G with A := A1 }, env, S1, y, S2, g.post p1 s1, e2, fun H2 A2 p2 s2 => ⟨{ G with A := A2 }, env, S2, z, _, (g.post p1 s1).post p2 s2, e3, fun H3 A3 p3 s3 => ?_⟩⟩⟩
  have g3 := ((g.post p1 s1).post p2 s2).post p3 s3
  have rx := (r1.lat p2 (g.post p1 s1).bs.disj).lat p3 ((g.post p1 s1).post p2 s2).bs.disj
  have pp := (p1.trans p2).trans p3
  have fin : ∀ (w : V) (H4 : Hp), Same H3 H4 → Rep X.K ct H4 A3 G.M v w → Q w H4 := fun w H4 sm rw' => q w H4 A3 (pp.trans (Post.grow g3.bs.nodup sm)) (s3.grow g3.bs.nodup sm) rw'
  have e5 := ofO_ok e4
  cases x with
  | lst xs =>
    cases e5
    obtain ⟨ad, vs, rfl, k1, k2⟩ := rx.lst
    refine .inl ⟨ad, vs, rfl, .inl (.inl k1), fun p np => ?_⟩
    obtain ⟨k3, k4⟩ := g3.hx.new_lst (cutP_rep (lo := y) (hi := z) k2) np
    exact fin _ _ k3 k4
  | tup xs =>
    cases e5
    obtain ⟨ad, vs, rfl, k1, k2⟩ := rx.tup
    refine .inr (.inl ⟨ad, vs, rfl, k1.sqT, fun hc => ?_, fun _ p np => ?_⟩)
    · refine fin _ H3 (Same.refl H3) ?_
      have hl := k2.length
      have : cutP xs y z = xs := by
        unfold cutP
        rw [← hl, hc.1, hc.2, List.drop_zero, Nat.sub_zero]
        exact List.take_of_length_le (by omega)
      rw [this]
      simp only [Rep]
      exact ⟨ad, vs, rfl, k1, k2⟩
    · obtain ⟨k3, k4⟩ := g3.hx.new_tup (cutP_rep (lo := y) (hi := z) k2) np
      exact fin _ _ k3 k4
  | scr ns =>
    cases e5
    rcases rx with rx | ⟨_, _, _, c⟩
    · obtain ⟨ad, rfl, k1, _⟩ := rx.scr_inv
      refine .inl ⟨ad, _, rfl, k1, fun p np => ?_⟩
      rw [cutV_map]
      obtain ⟨k3, k4⟩ := g3.hx.new_lst (RepL.of_ints (cutP ns y z)) np
      exact fin _ _ k3 k4
    · exact False.elim c
  | str z0 =>
    unfold pSl at e5
    dsimp only at e5
    split at e5
    · rename_i hz
      cases e5
      exact .inr (.inr ⟨z0, rx.str, sz_mil hz, fin _ H3 (Same.refl H3) (Rep.str_iff.mpr rfl)⟩)
    · cases e5
  | _ => cases e5
/-- xs[::-1] of a list -/
def pRev : PV → Option PV
  | .lst xs => some (.lst xs.reverse)
  | _ => none
theorem je_revL {k : Nat} {q1 q2 q3 : Pos} (ha : JB ct X a fa) : JE ct X (.Subscript a (.Slice none none (some (.UnaryOp .USub (.Constant (.int 1) k q1) q2)) q3) pos) (eUn pRev fa) := by
  refine ⟨(pe_revL ha.pe).imp fun σ H Q h => ?_⟩
  obtain ⟨G, env, S, v, S', g, h1, q⟩ := h
  obtain ⟨⟨x, S1⟩, e1, h1⟩ := Res.bind_ok h1
  obtain ⟨z, e3, h1⟩ := Res.bind_ok h1
  cases h1
  refine ⟨G, env, S, x, _, g, e1, fun x' H1 A1 p1 s1 r1 => ?_⟩
  have g1 := g.post p1 s1
  have e4 := ofO_ok e3
  cases x with
  | lst xs =>
    cases e4
    obtain ⟨ad, vs, rfl, k1, k2⟩ := r1.lst
    refine ⟨ad, vs, rfl, .inl (.inl k1), fun p np => ?_⟩
    obtain ⟨k3, k4⟩ := g1.hx.new_lst k2.reverse np
    exact q _ _ A1 (p1.trans (Post.grow g1.bs.nodup k3)) (s1.grow g1.bs.nodup k3) k4
  | _ => cases e4
end
end J
set_option Elab.async false
set_option linter.all false
set_option maxRecDepth 100000
/-! J: built-in functions. -/
namespace J
open PySem L2

/-! ### lengths of argument lists -/
def AL (n : Nat) (f : FA) : Prop := ∀ env S xs S', f env S = .ok (xs, S') → xs.length = n
theorem al_nil : AL 0 aNil := fun _ _ _ _ h => by cases h; rfl
theorem al_cons {n : Nat} {a : FE} {r : FA} (h : AL n r) : AL (n + 1) (aCons a r) := fun env S xs S' e => by
  obtain ⟨⟨x, S1⟩, e1, e⟩ := Res.bind_ok e
  obtain ⟨⟨y, S2⟩, e2, e⟩ := Res.bind_ok e
  cases e
  exact congrArg Nat.succ (h _ _ _ _ e2)

/-! ### len -/
def pLen : PV → Option PV
  | .lst xs => some (.int xs.length)
  | .tup xs => some (.int xs.length)
  | .scr xs => some (.int xs.length)
  | .str z => if z.length ≤ 1000000 then some (.int z.length) else none
  | _ => none
section
variable {ct : Ct} {X : Cx} {a b : Expr} {fa fb : FE} {pos p : Pos}
theorem rd_un {K : PySem.W.Frag} {op : PV → Option PV} {r : List V → Hp → VK → Prop} (ho : ∀ (H : Hp) (A M : List Addr) (x : V) (vx v : PV) (Q : VK), Hx A M H → RepB K ct H A M vx x → op vx = some v → (∀ z H', Same H H' → Rep K ct H' A M v z → Q z H') → r [x] H Q)
    {σ : St} {H : Hp} {Q : VK} (h : rd K ct (eUn op fa) σ H Q) : tCB r (tCons (rdB K ct fa) tNil) σ H Q := by
  obtain ⟨G, env, S, v, S', g, h1, q⟩ := h
  obtain ⟨⟨x, S1⟩, e1, h1⟩ := Res.bind_ok h1
  obtain ⟨z, e3, h1⟩ := Res.bind_ok h1
  cases h1
  refine ⟨G, env, S, x, _, g, e1, fun x' H1 A1 p1 s1 r1 => ?_⟩
  have g1 := g.post p1 s1
  exact ho H1 A1 G.M x' x v Q g1.hx r1 (ofO_ok e3) fun z H' sm rz => q z H' A1 (p1.trans (Post.grow g1.bs.nodup sm)) (s1.grow g1.bs.nodup sm) rz
theorem je_len (hm : X.mg "len" = none) (ha : JB ct X a fa) (hg : Gl X "len" := by rfl) (he : starEach [a] X.env = (false, eval a X.env) :: starEach [] X.env := by rfl) : JE ct X (.Call (.Name "len" p) [a] [] pos) (eUn pLen fa) := by
  refine ⟨(pe_callB call_len hg hm PySem.boot_len (pa_cons ha.pe pa_nil he) (by decide) (by decide) he rfl).imp fun σ H Q h => rd_un (fun H A M x vx v Q hx r e q => ?_) h⟩
  cases vx with
  | lst xs =>
    cases e
    obtain ⟨ad, vs, rfl, k1, k2⟩ := r.lst
    refine ⟨_, vs.length, rfl, .inl ⟨vs, .inl (.inl k1), rfl⟩, ?_⟩
    rw [k2.length]
    exact q _ H (Same.refl H) (Rep.int_iff.mpr rfl)
  | tup xs =>
    cases e
    obtain ⟨ad, vs, rfl, k1, k2⟩ := r.tup
    refine ⟨_, vs.length, rfl, .inr ⟨vs, k1.sqT, rfl⟩, ?_⟩
    rw [k2.length]
    exact q _ H (Same.refl H) (Rep.int_iff.mpr rfl)
  | scr ns =>
    cases e
    rcases r with r | ⟨_, _, _, c⟩
    · obtain ⟨ad, rfl, k1, _⟩ := r.scr_inv
      refine ⟨_, (ns.map V.int).length, rfl, .inl ⟨_, k1, rfl⟩, ?_⟩
      rw [List.length_map]
      exact q _ H (Same.refl H) (Rep.int_iff.mpr rfl)
    · exact False.elim c
  | str z =>
    unfold pLen at e
    dsimp only at e
    split at e
    · rename_i hz
      cases e
      have ex := r.str
      subst ex
      exact ⟨_, z.length, rfl, ⟨sz_mil hz, rfl⟩, q _ H (Same.refl H) (Rep.int_iff.mpr rfl)⟩
    · cases e
  | _ => cases e
/-! ### isinstance of a built-in type -/
def tyP : PV → Option String
  | .non => some "NoneType"
  | .bl _ => some "bool"
  | .int _ => some "int"
  | .str _ => some "str"
  | .tup _ => some "tuple"
  | .lst _ => some "list"
  | _ => none
def pIsT (T : String) (v : PV) : Option PV := (tyP v).bind fun s => (kitB s T).map PV.bl
theorem je_isT {T : Str} {U : String} {p1 : Pos} (hm : X.mg "isinstance" = none) (ht : X.mg T = none) (ha : JE ct X a fa) (hv : bootBuiltins T = some (.type U) := by decide +kernel) (hg : Gl X "isinstance" := by rfl) (hgT : Gl X T := by rfl) (hn : T ≠ "__name__" := by decide) (hd : (T == ("__debug__" : Str)) = false := by decide)
    (he : starEach [a, .Name T p1] X.env = (false, eval a X.env) :: starEach [.Name T p1] X.env := by rfl) (he2 : starEach [.Name T p1] X.env = (false, eval (.Name T p1) X.env) :: starEach [] X.env := by rfl) (hpl : (backTo pos (starEach [.Name T p1] X.env)).any (·.1) = false := by rfl) :
    JE ct X (.Call (.Name "isinstance" p) [a, .Name T p1] [] pos) (eUn (pIsT U) fa) := by
  refine ⟨(pe_callB call_isi hg hm (by decide +kernel) (pa_cons ha.pe (pa_cons (pe_bltn (v := .ty U) hgT ht hv rfl hn hd) pa_nil he2) he) (by decide) (by decide) he hpl).imp fun σ H Q h => ?_⟩
  obtain ⟨G, env, S, v, S', g, h1, q⟩ := h
  obtain ⟨⟨x, S1⟩, e1, h1⟩ := Res.bind_ok h1
  obtain ⟨z, e3, h1⟩ := Res.bind_ok h1
  cases h1
  refine ⟨G, env, S, x, _, g, e1, fun x' H1 A1 p1 s1 r1 => ?_⟩
  obtain ⟨ty, e4, e5⟩ := Option.bind_eq_some_iff.mp (ofO_ok e3)
  obtain ⟨bb, e6, rfl⟩ := Option.map_eq_some_iff.mp e5
  refine ⟨x', .ty U, .type ty, .type U, bb, rfl, .ty U, ?_, kit_ty e6, q _ H1 A1 p1 s1 (Rep.bl_iff.mpr rfl)⟩
  cases x with
  | non => cases e4; rw [Rep.non_iff.mp r1]; exact .base .non
  | bl i => cases e4; rw [Rep.bl_iff.mp r1]; exact .base (.bl i)
  | int i => cases e4; rw [Rep.int_iff.mp r1]; exact .base (.int i)
  | str i => cases e4; rw [Rep.str_iff.mp r1]; exact .base (.str i)
  | tup xs =>
    cases e4
    obtain ⟨ad, vs, rfl, k1, _⟩ := r1.tup_inv
    exact .base (.tup k1.1)
  | lst xs =>
    cases e4
    obtain ⟨ad, vs, rfl, k1, _⟩ := r1.lst_inv
    exact .base (.lst k1.1)
  | _ => cases e4
end
/-! ### lists of intsP and bools -/
def intsP : List PV → Option (List Int)
  | [] => some []
  | .int i :: r => (intsP r).map (i :: ·)
  | _ => none
def bls : List PV → Option (List Bool)
  | [] => some []
  | .bl i :: r => (bls r).map (i :: ·)
  | _ => none
theorem intsP_eq : ∀ {ps : List PV} {ns : List Int}, intsP ps = some ns → ps = ns.map PV.int
  | [], ns, h => by cases h; rfl
  | .int i :: r, ns, h => by
    simp only [intsP] at h
    obtain ⟨l, e, rfl⟩ := Option.map_eq_some_iff.mp h
    rw [intsP_eq e]; rfl
  | .non :: _, _, h => by cases h
  | .bl _ :: _, _, h => by cases h
  | .str _ :: _, _, h => by cases h
  | .tup _ :: _, _, h => by cases h
  | .lst _ :: _, _, h => by cases h
  | .dic _ _ _ :: _, _, h => by cases h
  | .ins _ _ :: _, _, h => by cases h
  | .obj _ :: _, _, h => by cases h
  | .scr _ :: _, _, h => by cases h
theorem bls_eq : ∀ {ps : List PV} {ns : List Bool}, bls ps = some ns → ps = ns.map PV.bl
  | [], ns, h => by cases h; rfl
  | .bl i :: r, ns, h => by
    simp only [bls] at h
    obtain ⟨l, e, rfl⟩ := Option.map_eq_some_iff.mp h
    rw [bls_eq e]; rfl
  | .non :: _, _, h => by cases h
  | .int _ :: _, _, h => by cases h
  | .str _ :: _, _, h => by cases h
  | .tup _ :: _, _, h => by cases h
  | .lst _ :: _, _, h => by cases h
  | .dic _ _ _ :: _, _, h => by cases h
  | .ins _ _ :: _, _, h => by cases h
  | .obj _ :: _, _, h => by cases h
  | .scr _ :: _, _, h => by cases h
def pSum : PV → Option PV
  | .lst xs => (intsP xs).map fun ns => .int ns.sum
  | .tup xs => (intsP xs).map fun ns => .int ns.sum
  | _ => none
def pAll : PV → Option PV
  | .lst xs => (bls xs).map fun bs => .bl (bs.all id)
  | _ => none
def pAny : PV → Option PV
  | .lst xs => (bls xs).map fun bs => .bl (bs.any id)
  | _ => none
def maxI : List Int → Int
  | [] => 0
  | [x] => x
  | x :: r => max x (maxI r)
def minI : List Int → Int
  | [] => 0
  | [x] => x
  | x :: r => min x (minI r)
def pMaxL : PV → Option PV
  | .lst xs => (intsP xs).bind fun ns => if ns = [] then none else some (.int (maxI ns))
  | _ => none
def pMinL : PV → Option PV
  | .lst xs => (intsP xs).bind fun ns => if ns = [] then none else some (.int (minI ns))
  | _ => none
theorem maxI_spec : ∀ {ns : List Int}, ns ≠ [] → maxI ns ∈ ns ∧ ∀ y ∈ ns, y ≤ maxI ns
  | [], h => absurd rfl h
  | [x], _ => by simp [maxI]
  | x :: y :: r, _ => by
    obtain ⟨h1, h2⟩ := maxI_spec (ns := y :: r) (by simp)
    simp only [maxI]
    constructor
    · by_cases h : x ≤ maxI (y :: r)
      · rw [Int.max_eq_right h]; exact List.mem_cons_of_mem _ h1
      · rw [Int.max_eq_left (by omega)]; exact List.mem_cons_self
    · intro z hzZ
      rcases List.mem_cons.mp hzZ with e | hzZ
      · subst e; omega
      · have := h2 z hzZ; omega
theorem minI_spec : ∀ {ns : List Int}, ns ≠ [] → minI ns ∈ ns ∧ ∀ y ∈ ns, minI ns ≤ y
  | [], h => absurd rfl h
  | [x], _ => by simp [minI]
  | x :: y :: r, _ => by
    obtain ⟨h1, h2⟩ := minI_spec (ns := y :: r) (by simp)
    simp only [minI]
    constructor
    · by_cases h : x ≤ minI (y :: r)
      · rw [Int.min_eq_left h]; exact List.mem_cons_self
      · rw [Int.min_eq_right (by omega)]; exact List.mem_cons_of_mem _ h1
    · intro z hzZ
      rcases List.mem_cons.mp hzZ with e | hzZ
      · subst e; omega
      · have := h2 z hzZ; omega
/-- sum(t) of a tuple of intsP -/
def rSumT (K : PySem.W.Frag) : List V → Hp → VK → Prop := fun vs H Q => ∃ (a : Addr) (ns : List Int), vs = [V.ref a] ∧ SqT K H a (ns.map V.int) ∧ Q (.int ns.sum) H
theorem cr_sumT {X : Cx} (hc : X.calm = true) : CallR X (.builtin "sum") (rSumT X.K) := by
  intro pinsZ s σ H vs us Q I r h
  obtain ⟨aZ, ns, rfl, hs, q⟩ := h
  obtain ⟨its, rv, hl, _⟩ := I.tuple hs
  rw [Vals.ref1 r]
  have hi := rv.ints
  obtain ⟨xsZ, e⟩ := hi.allInts.items
  have hnZ : numsOf (intItems xsZ).toList = ns := by rw [← e]; exact hi.numsOf
  rw [nums_intItems] at hnZ
  rw [e] at hl
  refine PySem.W.ktm_sumG (I.ok.hd hc) hl fun h' tk t' hk => ?_
  refine ⟨.int ns.sum, H, I.kept hk, ⟨t', ?_⟩, q⟩
  rw [preSum_eq, List.take_of_length_le (by simp), hnZ]
section
variable {ct : Ct} {X : Cx} {a b : Expr} {fa fb : FE} {pos p : Pos}
theorem je_sum (hm : X.mg "sum" = none) (ha : JB ct X a fa) (hc : X.calm = true := by rfl) (hg : Gl X "sum" := by rfl) (he : starEach [a] X.env = (false, eval a X.env) :: starEach [] X.env := by rfl) : JE ct X (.Call (.Name "sum" p) [a] [] pos) (eUn pSum fa) := by
  refine ⟨(pe_callB ((cr_sum hc).or (cr_sumT hc)) hg hm (by decide +kernel) (pa_cons ha.pe pa_nil he) (by decide) (by decide) he rfl).imp fun σ H Q h => rd_un (fun H A M x vx v Q hx r e q => ?_) h⟩
  cases vx with
  | lst xs =>
    obtain ⟨ns, e1, rfl⟩ := Option.map_eq_some_iff.mp e
    have ex := intsP_eq e1
    subst ex
    obtain ⟨ad, vs, rfl, k1, k2⟩ := r.lst
    have ev := k2.ints
    subst ev
    exact .inl ⟨ad, ns, rfl, .inl (.inl k1), q _ H (Same.refl H) (Rep.int_iff.mpr rfl)⟩
  | tup xs =>
    obtain ⟨ns, e1, rfl⟩ := Option.map_eq_some_iff.mp e
    have ex := intsP_eq e1
    subst ex
    obtain ⟨ad, vs, rfl, k1, k2⟩ := r.tup
    have ev := k2.ints
    subst ev
    exact .inr ⟨ad, ns, rfl, k1.sqT, q _ H (Same.refl H) (Rep.int_iff.mpr rfl)⟩
  | _ => cases e
theorem je_all (hm : X.mg "all" = none) (ha : JB ct X a fa) (hc : X.calm = true := by rfl) (hg : Gl X "all" := by rfl) (he : starEach [a] X.env = (false, eval a X.env) :: starEach [] X.env := by rfl) : JE ct X (.Call (.Name "all" p) [a] [] pos) (eUn pAll fa) := by
  refine ⟨(pe_callB (cr_all hc) hg hm (by decide +kernel) (pa_cons ha.pe pa_nil he) (by decide) (by decide) he rfl).imp fun σ H Q h => rd_un (fun H A M x vx v Q hx r e q => ?_) h⟩
  cases vx with
  | lst xs =>
    obtain ⟨ns, e1, rfl⟩ := Option.map_eq_some_iff.mp e
    have ex := bls_eq e1
    subst ex
    obtain ⟨ad, vs, rfl, k1, k2⟩ := r.lst
    have ev := k2.bls
    subst ev
    exact ⟨ad, ns, rfl, .inl (.inl k1), q _ H (Same.refl H) (Rep.bl_iff.mpr rfl)⟩
  | _ => cases e
theorem je_any (hm : X.mg "any" = none) (ha : JB ct X a fa) (hc : X.calm = true := by rfl) (hg : Gl X "any" := by rfl) (he : starEach [a] X.env = (false, eval a X.env) :: starEach [] X.env := by rfl) : JE ct X (.Call (.Name "any" p) [a] [] pos) (eUn pAny fa) := by
  refine ⟨(pe_callB (cr_any hc) hg hm (by decide +kernel) (pa_cons ha.pe pa_nil he) (by decide) (by decide) he rfl).imp fun σ H Q h => rd_un (fun H A M x vx v Q hx r e q => ?_) h⟩
  cases vx with
  | lst xs =>
    obtain ⟨ns, e1, rfl⟩ := Option.map_eq_some_iff.mp e
    have ex := bls_eq e1
    subst ex
    obtain ⟨ad, vs, rfl, k1, k2⟩ := r.lst
    have ev := k2.bls
    subst ev
    exact ⟨ad, ns, rfl, .inl (.inl k1), q _ H (Same.refl H) (Rep.bl_iff.mpr rfl)⟩
  | _ => cases e
theorem je_maxL (hm : X.mg "max" = none) (ha : JB ct X a fa) (hc : X.calm = true := by rfl) (hg : Gl X "max" := by rfl) (he : starEach [a] X.env = (false, eval a X.env) :: starEach [] X.env := by rfl) : JE ct X (.Call (.Name "max" p) [a] [] pos) (eUn pMaxL fa) := by
  refine ⟨(pe_callB (cr_max hc) hg hm (by decide +kernel) (pa_cons ha.pe pa_nil he) (by decide) (by decide) he rfl).imp fun σ H Q h => rd_un (fun H A M x vx v Q hx r e q => ?_) h⟩
  cases vx with
  | lst xs =>
    obtain ⟨ns, e1, e2⟩ := Option.bind_eq_some_iff.mp e
    have ex := intsP_eq e1
    subst ex
    obtain ⟨ad, vs, rfl, k1, k2⟩ := r.lst
    have ev := k2.ints
    subst ev
    split at e2
    · cases e2
    · rename_i hne
      cases e2
      obtain ⟨m1, m2⟩ := maxI_spec hne
      refine ⟨ad, ns, rfl, .inl (.inl k1), List.length_pos_iff.mpr hne, fun m h1 h2 => ?_⟩
      have : m = maxI ns := Int.le_antisymm (m2 m h1) (h2 _ m1)
      subst this
      exact q _ H (Same.refl H) (Rep.int_iff.mpr rfl)
  | _ => cases e
theorem je_minL (hm : X.mg "min" = none) (ha : JB ct X a fa) (hc : X.calm = true := by rfl) (hg : Gl X "min" := by rfl) (he : starEach [a] X.env = (false, eval a X.env) :: starEach [] X.env := by rfl) : JE ct X (.Call (.Name "min" p) [a] [] pos) (eUn pMinL fa) := by
  refine ⟨(pe_callB (cr_min hc) hg hm (by decide +kernel) (pa_cons ha.pe pa_nil he) (by decide) (by decide) he rfl).imp fun σ H Q h => rd_un (fun H A M x vx v Q hx r e q => ?_) h⟩
  cases vx with
  | lst xs =>
    obtain ⟨ns, e1, e2⟩ := Option.bind_eq_some_iff.mp e
    have ex := intsP_eq e1
    subst ex
    obtain ⟨ad, vs, rfl, k1, k2⟩ := r.lst
    have ev := k2.ints
    subst ev
    split at e2
    · cases e2
    · rename_i hne
      cases e2
      obtain ⟨m1, m2⟩ := minI_spec hne
      refine ⟨ad, ns, rfl, .inl (.inl k1), List.length_pos_iff.mpr hne, fun m h1 h2 => ?_⟩
      have : m = minI ns := Int.le_antisymm (h2 _ m1) (m2 m h1)
      subst this
      exact q _ H (Same.refl H) (Rep.int_iff.mpr rfl)
  | _ => cases e
/-! ### tuple(..), list(..), abs, int -/
def pTupC : PV → Option PV
  | .lst xs => some (.tup xs)
  | .tup xs => some (.tup xs)
  | _ => none
theorem je_tuple (hm : X.mg "tuple" = none) (ha : JB ct X a fa) (hg : Gl X "tuple" := by rfl) (he : starEach [a] X.env = (false, eval a X.env) :: starEach [] X.env := by rfl) : JE ct X (.Call (.Name "tuple" p) [a] [] pos) (eUn pTupC fa) := by
  refine ⟨(pe_callTy call_tuple_of hg hm (by decide +kernel) (pa_cons ha.pe pa_nil he) (by decide) (by decide) he rfl).imp fun σ H Q h => rd_un (fun H A M x vx v Q hx r e q => ?_) h⟩
  cases vx with
  | lst xs =>
    cases e
    obtain ⟨ad, vs, rfl, k1, k2⟩ := r.lst
    refine ⟨ad, vs, rfl, .inl ⟨.inl (.inl k1), fun l nl => ?_⟩⟩
    obtain ⟨k3, k4⟩ := hx.new_tup k2 nl
    exact q _ _ k3 k4
  | tup xs =>
    cases e
    obtain ⟨ad, vs, rfl, k1, k2⟩ := r.tup
    refine ⟨ad, vs, rfl, .inr ⟨k1.sqT, q _ H (Same.refl H) ?_⟩⟩
    simp only [Rep]
    exact ⟨ad, vs, rfl, k1, k2⟩
  | _ => cases e
def pLstC : PV → Option PV
  | .lst xs => some (.lst xs)
  | .tup xs => some (.lst xs)
  | .scr ns => some (.lst (ns.map PV.int))
  | _ => none
theorem jf_list (hm : X.mg "list" = none) (ha : JB ct X a fa) (hg : Gl X "list" := by rfl) (he : starEach [a] X.env = (false, eval a X.env) :: starEach [] X.env := by rfl) : JF ct X (.Call (.Name "list" p) [a] [] pos) (eUn pLstC fa) := by
  refine ⟨(pe_callTy call_list_of hg hm (by decide +kernel) (pa_cons ha.pe pa_nil he) (by decide) (by decide) he rfl).imp fun σ H Q h => ?_⟩
  obtain ⟨G, env, S, v, S', g, h1, q⟩ := h
  obtain ⟨⟨x, S1⟩, e1, h1⟩ := Res.bind_ok h1
  obtain ⟨z, e3, h1⟩ := Res.bind_ok h1
  cases h1
  refine ⟨G, env, S, x, _, g, e1, fun x' H1 A1 p1 s1 r1 => ?_⟩
  have e4 := ofO_ok e3
  have fin : ∀ {ys : List PV} {us : List V}, v = .lst ys → RepL X.K ct H1 A1 G.M ys us → ∀ l, H1 l = none → Q (.ref l) (upd H1 l (.lst us)) := fun {ys us} ev ry l nl => by
    subst ev
    obtain ⟨k1, k2, k3, k4, k5⟩ := fresh_lst g p1 s1 ry nl
    exact q l _ A1 k1 k2 k3 k4 k5
  cases x with
  | lst xs =>
    cases e4
    obtain ⟨ad, vs, rfl, k1, k2⟩ := r1.lst
    exact ⟨ad, vs, rfl, .inl (.inl (.inl k1)), fin rfl k2⟩
  | tup xs =>
    cases e4
    obtain ⟨ad, vs, rfl, k1, k2⟩ := r1.tup
    exact ⟨ad, vs, rfl, .inr k1.sqT, fin rfl k2⟩
  | scr ns =>
    cases e4
    rcases r1 with r1 | ⟨_, _, _, c⟩
    · obtain ⟨ad, rfl, k1, _⟩ := r1.scr_inv
      exact ⟨ad, _, rfl, .inl k1, fin rfl (RepL.of_ints ns)⟩
    · exact False.elim c
  | _ => cases e4
def pAbs : PV → Option PV
  | .int z => some (.int (if z < 0 then -z else z))
  | _ => none
theorem je_abs (hm : X.mg "abs" = none) (ha : JB ct X a fa) (hg : Gl X "abs" := by rfl) (he : starEach [a] X.env = (false, eval a X.env) :: starEach [] X.env := by rfl) : JE ct X (.Call (.Name "abs" p) [a] [] pos) (eUn pAbs fa) := by
  refine ⟨(pe_callB call_abs hg hm (by decide +kernel) (pa_cons ha.pe pa_nil he) (by decide) (by decide) he rfl).imp fun σ H Q h => rd_un (fun H A M x vx v Q hx r e q => ?_) h⟩
  cases vx with
  | int i => cases e; exact ⟨i, by rw [r.int], q _ H (Same.refl H) (Rep.int_iff.mpr rfl)⟩
  | _ => cases e
def pInt : PV → Option PV
  | .int i => some (.int i)
  | .bl k => some (.int (if k then 1 else 0))
  | _ => none
theorem je_intC (hm : X.mg "int" = none) (ha : JB ct X a fa) (hg : Gl X "int" := by rfl) (he : starEach [a] X.env = (false, eval a X.env) :: starEach [] X.env := by rfl) : JE ct X (.Call (.Name "int" p) [a] [] pos) (eUn pInt fa) := by
  refine ⟨(pe_callTy call_int1 hg hm (by decide +kernel) (pa_cons ha.pe pa_nil he) (by decide) (by decide) he rfl).imp fun σ H Q h => rd_un (fun H A M x vx v Q hx r e q => ?_) h⟩
  cases vx with
  | int i => cases e; exact .inl ⟨i, by rw [r.int], q _ H (Same.refl H) (Rep.int_iff.mpr rfl)⟩
  | bl i => cases e; exact .inr ⟨i, by rw [r.bl], q _ H (Same.refl H) (Rep.int_iff.mpr rfl)⟩
  | _ => cases e
/-! ### two arguments -/
variable {fr : FA}
def pMax2 : List PV → Option PV
  | [.int i, .int j] => some (.int (if j > i then j else i))
  | _ => none
def pMin2 : List PV → Option PV
  | [.int i, .int j] => some (.int (if j < i then j else i))
  | _ => none
def pDivmod : List PV → Option PV
  | [.int i, .int j] => if 0 < j ∧ j < 1073741824 then some (.tup [.int (i / j), .int (i % j)]) else none
  | _ => none
theorem two_ints {K : PySem.W.Frag} {H : Hp} {A M : List Addr} {i j : Int} {xs : List V} (r : RepL K ct H A M [.int i, .int j] xs) : xs = [.int i, .int j] := by
  obtain ⟨v, w, rfl, h1, h2⟩ := r.two
  rw [Rep.int_iff.mp h1, Rep.int_iff.mp h2]
theorem ok_max2 {K : PySem.W.Frag} : CallOk K ct (fun xs H Q => ∃ i j, xs = [.int i, .int j] ∧ Q (.int (if j > i then j else i)) H) pMax2 := fun H A M xs vs v Q hx r e q => by
  unfold pMax2 at e
  split at e
  · cases e; exact ⟨_, _, two_ints r, q _ H (Same.refl H) (Rep.int_iff.mpr rfl)⟩
  · cases e
theorem ok_min2 {K : PySem.W.Frag} : CallOk K ct (fun xs H Q => ∃ i j, xs = [.int i, .int j] ∧ Q (.int (if j < i then j else i)) H) pMin2 := fun H A M xs vs v Q hx r e q => by
  unfold pMin2 at e
  split at e
  · cases e; exact ⟨_, _, two_ints r, q _ H (Same.refl H) (Rep.int_iff.mpr rfl)⟩
  · cases e
theorem ok_divmod {K : PySem.W.Frag} : CallOk K ct (fun xs H Q => ∃ i j, xs = [.int i, .int j] ∧ CDiv i j ∧ ∀ p, H p = none → Q (.ref p) (upd H p (.tup [.int (i / j), .int (i % j)]))) pDivmod := fun H A M xs vs v Q hx r e q => by
  unfold pDivmod at e
  split at e
  · split at e
    · rename_i hz
      cases e
      refine ⟨_, _, two_ints r, hz, fun p np => ?_⟩
      obtain ⟨k1, k2⟩ := hx.new_tup (.cons (Rep.int_iff.mpr rfl) (.cons (Rep.int_iff.mpr rfl) .nil)) np
      exact q _ _ k1 k2
    · cases e
  · cases e
theorem je_max2 (hm : X.mg "max" = none) (ha : JA ct X [a, b] fr) (hc : X.calm = true := by rfl) (hg : Gl X "max" := by rfl) (he : starEach [a, b] X.env = (false, eval a X.env) :: starEach [b] X.env := by rfl) (hpl : (backTo pos (starEach [b] X.env)).any (·.1) = false := by rfl) : JE ct X (.Call (.Name "max" p) [a, b] [] pos) (eB pMax2 fr) :=
  je_callB (call_max2 hc) ok_max2 hm ha hg (by decide +kernel) (by decide) (by decide) he hpl
theorem je_min2 (hm : X.mg "min" = none) (ha : JA ct X [a, b] fr) (hc : X.calm = true := by rfl) (hg : Gl X "min" := by rfl) (he : starEach [a, b] X.env = (false, eval a X.env) :: starEach [b] X.env := by rfl) (hpl : (backTo pos (starEach [b] X.env)).any (·.1) = false := by rfl) : JE ct X (.Call (.Name "min" p) [a, b] [] pos) (eB pMin2 fr) :=
  je_callB (call_min2 hc) ok_min2 hm ha hg (by decide +kernel) (by decide) (by decide) he hpl
theorem je_divmod (hm : X.mg "divmod" = none) (ha : JA ct X [a, b] fr) (hg : Gl X "divmod" := by rfl) (he : starEach [a, b] X.env = (false, eval a X.env) :: starEach [b] X.env := by rfl) (hpl : (backTo pos (starEach [b] X.env)).any (·.1) = false := by rfl) : JE ct X (.Call (.Name "divmod" p) [a, b] [] pos) (eB pDivmod fr) :=
  je_callB call_divmod ok_divmod hm ha hg (by decide +kernel) (by decide) (by decide) he hpl
end
end J
set_option Elab.async false
set_option linter.all false
set_option maxRecDepth 100000
/-! J: membership, order of data. -/
namespace J
open PySem L2

mutual
theorem plain_toD : ∀ (a : PV), isD a = true → (toD a).plain = true
  | .tup xs, h => by simp only [toD, PyData.plain]; exact plain_toDL xs (by simpa only [isD] using h)
  | .lst xs, h => by simp only [toD, PyData.plain]; exact plain_toDL xs (by simpa only [isD] using h)
  | .non, _ => rfl
  | .bl _, _ => rfl
  | .int _, _ => rfl
  | .str _, h => rfl
  | .dic _ _ _, h => by cases h
  | .ins _ _, h => by cases h
  | .obj _, h => by cases h
  | .scr _, h => by cases h
theorem plain_toDL : ∀ (xs : List PV), isDL xs = true → PyData.plainAll (toDL xs) = true
  | [], _ => rfl
  | x :: r, h => by
    simp only [isDL, Bool.and_eq_true] at h
    simp only [toDL, PyData.plainAll, Bool.and_eq_true]
    exact ⟨plain_toD x h.1, plain_toDL r h.2⟩
end
def inP (x : PV) : List PV → Bool
  | [] => false
  | y :: r => eqP y x || inP x r
theorem any_inP (x : PV) (hx : isD x = true) : ∀ (ys : List PV), isDL ys = true → ((toDL ys).any fun y => PyData.eqv y (toD x)) = inP x ys
  | [], _ => rfl
  | y :: r, h => by
    simp only [isDL, Bool.and_eq_true] at h
    simp only [toDL, List.any_cons, inP]
    rw [eqv_toD y x h.1 hx, any_inP x hx r h.2]
/-- x in y -/
def inPV (x : PV) : PV → Option Bool
  | .lst ys => if dOK x && dOK (.lst ys) then some (inP x ys) else none
  | .tup ys => if dOK x && dOK (.tup ys) then some (inP x ys) else none
  | .scr ns => if dOK x then some (inP x (ns.map PV.int)) else none
  | .dic t ks vs => if keyFit t x then some (dGet ks vs x).isSome else none
  | _ => none
def pIn (x y : PV) : Option PV := (inPV x y).map PV.bl
def pNotIn (x y : PV) : Option PV := (inPV x y).map fun b => PV.bl (!b)
def rInD (K : PySem.W.Frag) (neg : Bool) : R2 := fun x y H Q => ∃ d ds, Dp K H x d ∧ (Dp K H y (.list ds) ∨ Dp K H y (.tuple ds)) ∧ d.plain = true ∧ PyData.plainAll ds = true ∧ d.depth ≤ 60 ∧ Q (.bl (if neg then !(ds.any fun z => PyData.eqv z d) else ds.any fun z => PyData.eqv z d)) H
theorem op_inD {X : Cx} (hu : X.A.units + 64 < cLine) : OpR X (compareOp .In) (rInD X.K false) := by
  intro pinsZ s σ H x y v u Q I rx ry h
  obtain ⟨d, ds, hd, he, p1, p2, dp, q⟩ := h
  obtain ⟨asZ, r1⟩ := Dp.reads I d x v hd rx
  rcases he with he | he
  · obtain ⟨bs, r2⟩ := Dp.reads I _ y u he ry
    exact SeqAt.in_list_data r2 r1 p2 p1 (by have := Nat.min_le_right (PyData.depthAll ds) d.depth; omega) ⟨.bl _, H, I, rfl, q⟩
  · obtain ⟨bs, r2⟩ := Dp.reads I _ y u he ry
    exact SeqAt.in_tuple_data r2 r1 p2 p1 (by have := Nat.min_le_right (PyData.depthAll ds) d.depth; omega) ⟨.bl _, H, I, rfl, q⟩
theorem op_notInD {X : Cx} (hu : X.A.units + 64 < cLine) : OpR X (compareOp .NotIn) (rInD X.K true) := by
  intro pinsZ s σ H x y v u Q I rx ry h
  obtain ⟨d, ds, hd, he, p1, p2, dp, q⟩ := h
  obtain ⟨asZ, r1⟩ := Dp.reads I d x v hd rx
  rcases he with he | he
  · obtain ⟨bs, r2⟩ := Dp.reads I _ y u he ry
    exact SeqAt.notIn_list_data r2 r1 p2 p1 (by have := Nat.min_le_right (PyData.depthAll ds) d.depth; omega) ⟨.bl _, H, I, rfl, q⟩
  · obtain ⟨bs, r2⟩ := Dp.reads I _ y u he ry
    exact SeqAt.notIn_tuple_data r2 r1 p2 p1 (by have := Nat.min_le_right (PyData.depthAll ds) d.depth; omega) ⟨.bl _, H, I, rfl, q⟩
theorem dOK.two {v : PV} (h : dOK v = true) : isD v = true ∧ dpP v ≤ 60 := by
  unfold dOK at h
  simp only [Bool.and_eq_true, decide_eq_true_eq (p := dpP v ≤ 60)] at h
  exact h
section
variable {ct : Ct} {X : Cx} {a b : Expr} {fa fb : FE} {pos : Pos}
def isDic : PV → Bool
  | .dic _ _ _ => true
  | _ => false
theorem scr_dp {K : PySem.W.Frag} {H : Hp} {A M : List Addr} {ns : List Int} {y : V} (r : RepB K ct H A M (.scr ns) y) : Dp K H y (.list (toDL (ns.map PV.int))) := by
  rcases r with r | ⟨_, _, _, c⟩
  · obtain ⟨ad, rfl, k1, _⟩ := r.scr_inv
    have hd : ∀ (l : List Int), DpAll K H (l.map V.int) (toDL (l.map PV.int)) := fun l => by
      induction l with
      | nil => exact .nil
      | cons n l ih => exact .cons (.int n) ih
    exact .lst k1 (hd ns)
  · exact False.elim c
theorem isDL_ints : ∀ (ns : List Int), isDL (ns.map PV.int) = true
  | [] => rfl
  | n :: ns => by
    simp only [List.map_cons, isDL, isDL_ints ns]; rfl
/-- the values' side of in, not in -/
theorem in_ok {K : PySem.W.Frag} {H : Hp} {A M : List Addr} {x y : V} {vx vy : PV} {k : Bool} (hd : isDic vy = false) (rx : RepB K ct H A M vx x) (ry : RepB K ct H A M vy y) (e : inPV vx vy = some k) :
    ∃ d ds, Dp K H x d ∧ (Dp K H y (.list ds) ∨ Dp K H y (.tuple ds)) ∧ d.plain = true ∧ PyData.plainAll ds = true ∧ d.depth ≤ 60 ∧ (ds.any fun z => PyData.eqv z d) = k := by
  cases vy with
  | lst ys =>
    simp only [inPV] at e
    split at e
    · rename_i hz
      cases e
      rw [Bool.and_eq_true] at hz
      obtain ⟨h1, h2⟩ := dOK.two hz.1
      obtain ⟨h3, h4⟩ := dOK.two hz.2
      have h5 : isDL ys = true := by simpa only [isD] using h3
      have dy := ry.dp h3
      simp only [toD] at dy
      exact ⟨_, toDL ys, rx.dp h1, .inl dy, plain_toD _ h1, plain_toDL _ h5, by rw [depth_toD]; exact h2, any_inP _ h1 _ h5⟩
    · cases e
  | tup ys =>
    simp only [inPV] at e
    split at e
    · rename_i hz
      cases e
      rw [Bool.and_eq_true] at hz
      obtain ⟨h1, h2⟩ := dOK.two hz.1
      obtain ⟨h3, h4⟩ := dOK.two hz.2
      have h5 : isDL ys = true := by simpa only [isD] using h3
      have dy := ry.dp h3
      simp only [toD] at dy
      exact ⟨_, toDL ys, rx.dp h1, .inr dy, plain_toD _ h1, plain_toDL _ h5, by rw [depth_toD]; exact h2, any_inP _ h1 _ h5⟩
    · cases e
  | scr ns =>
    simp only [inPV] at e
    split at e
    · rename_i hz
      cases e
      obtain ⟨h1, h2⟩ := dOK.two hz
      exact ⟨_, toDL (ns.map PV.int), rx.dp h1, .inl (scr_dp ry), plain_toD _ h1, plain_toDL _ (isDL_ints ns), by rw [depth_toD]; exact h2, any_inP _ h1 _ (isDL_ints ns)⟩
    · cases e
  | dic t ks vs => cases hd
  | _ => cases e
theorem rd_in {K : PySem.W.Frag} {neg : Bool} {σ : St} {H : Hp} {Q : VK} (h : rd K ct (eOp (fun x y => (inPV x y).map fun k => PV.bl (if neg then !k else k)) fa fb) σ H Q) :
    tOp (rInD K neg) (rd K ct fa) (rdB K ct fb) σ H Q ∨ rd K ct fa σ H fun y H1 => rdB K ct fb σ H1 fun x H2 => ∃ a o, x = .ref a ∧ DGet H2 a y o ∧ Q (.bl (if neg then !o.isSome else o.isSome)) H2 := by
  obtain ⟨G, env, S, v, S', g, h1, q⟩ := h
  obtain ⟨⟨x, S1⟩, e1, h1⟩ := Res.bind_ok h1
  obtain ⟨⟨y, S2⟩, e2, h1⟩ := Res.bind_ok h1
  obtain ⟨z, e3, h1⟩ := Res.bind_ok h1
  cases h1
  obtain ⟨k, e4, ek⟩ := Option.map_eq_some_iff.mp (ofO_ok e3)
  subst ek
  have two : ∀ (R : V → V → Hp → Prop), (∀ x' y' H2 A2, Post G.A H A2 H2 → StoOk K ct H2 A2 G.M S2 → Rep K ct H2 A2 G.M x x' → RepB K ct H2 A2 G.M y y' → R x' y' H2) →
      rd K ct fa σ H fun x' H1 => rdB K ct fb σ H1 fun y' H2 => R x' y' H2 := fun R hR =>
    ⟨G, env, S, x, S1, g, e1, fun x' H1 A1 p1 s1 r1 => ⟨{ G with A := A1 }, env, S1, y, S2, g.post p1 s1, e2, fun y' H2 A2 p2 s2 r2 => hR x' y' H2 A2 (p1.trans p2) s2 (r1.lat (p2.lat G.M) x x') r2⟩⟩
  cases hd : isDic y with
  | false =>
    refine .inl (two _ fun x' y' H2 A2 p s rx ry => ?_)
    obtain ⟨d, ds, k1, k2, k3, k4, k5, k6⟩ := in_ok hd (.inl rx) ry e4
    refine ⟨d, ds, k1, k2, k3, k4, k5, ?_⟩
    rw [k6]
    exact q _ H2 A2 p s (Rep.bl_iff.mpr rfl)
  | true =>
    cases y with
    | dic t ks vs =>
      refine .inr (two _ fun x' y' H2 A2 p s rx ry => ?_)
      simp only [inPV] at e4
      split at e4
      · rename_i hf
        cases e4
        obtain ⟨ad, o, ea, dg, hh⟩ := dict_get ry rx hf
        refine ⟨ad, o, ea, dg, ?_⟩
        have eo : o.isSome = (dGet ks vs x).isSome := by
          rcases hh with ⟨v, w, c1, c2, _⟩ | ⟨c1, c2⟩
          · rw [c1, c2]; rfl
          · rw [c1, c2]; rfl
        rw [eo]
        exact q _ H2 A2 p s (Rep.bl_iff.mpr rfl)
      · cases e4
    | _ => cases hd
theorem pIn_eq : pIn = fun x y => (inPV x y).map fun k => PV.bl (if false then !k else k) := by
  funext x y; rfl
theorem pNotIn_eq : pNotIn = fun x y => (inPV x y).map fun k => PV.bl (if true then !k else k) := by
  funext x y; rfl
theorem je_in {k : Nat} (hr : Room k X.A) (ha : JE ct X a fa) (hb : JB ct X b fb) (hm : behindInMarks .In b = false := by rfl) : JE ct X (.Compare a [.In] [b] pos) (eOp pIn fa fb) :=
  ⟨((pe_cmpR (op_inD hr.units) ha.pe hb.pe hm).or (pe_cmp (pc_din (hu_of hr) ha.pe hb.pe) hm)).imp fun _ _ _ h => by rw [pIn_eq] at h; exact rd_in h⟩
theorem je_notIn {k : Nat} (hr : Room k X.A) (ha : JE ct X a fa) (hb : JB ct X b fb) (hm : behindInMarks .NotIn b = false := by rfl) : JE ct X (.Compare a [.NotIn] [b] pos) (eOp pNotIn fa fb) :=
  ⟨((pe_cmpR (op_notInD hr.units) ha.pe hb.pe hm).or (pe_cmp (pc_dnotin (hu_of hr) ha.pe hb.pe) hm)).imp fun _ _ _ h => by rw [pNotIn_eq] at h; exact rd_in h⟩
theorem _root_.L2.PT.or {X : Cx} {e : Expr} {t t' : TT} (h : PT X e t) (h' : PT X e t') : PT X e (fun σ H Q => t σ H Q ∨ t' σ H Q) := ⟨fun pins s σ H Q I q => q.elim (h.run pins s σ H Q I) (h'.run pins s σ H Q I)⟩
theorem jt_in {k : Nat} (hr : Room k X.A) (ha : JE ct X a fa) (hb : JB ct X b fb) (hm : behindInMarks .In b = false := by rfl) : JT ct X (.Compare a [.In] [b] pos) (tV (eOp pIn fa fb)) :=
  ⟨((pt_cmpR (op_inD hr.units) ha.pe hb.pe hm).or (pt_cmp (pc_din (hu_of hr) ha.pe hb.pe) hm)).imp fun _ _ _ h => rdT_tTest (t := fun σ H Q => tOp (rInD X.K false) (rd X.K ct fa) (rdB X.K ct fb) σ H Q ∨ tDIn (rd X.K ct fa) (rdB X.K ct fb) σ H Q) (fun _ _ _ z => by rw [pIn_eq] at z; exact rd_in z) h⟩
theorem jt_notIn {k : Nat} (hr : Room k X.A) (ha : JE ct X a fa) (hb : JB ct X b fb) (hm : behindInMarks .NotIn b = false := by rfl) : JT ct X (.Compare a [.NotIn] [b] pos) (tV (eOp pNotIn fa fb)) :=
  ⟨((pt_cmpR (op_notInD hr.units) ha.pe hb.pe hm).or (pt_cmp (pc_dnotin (hu_of hr) ha.pe hb.pe) hm)).imp fun _ _ _ h => rdT_tTest (t := fun σ H Q => tOp (rInD X.K true) (rd X.K ct fa) (rdB X.K ct fb) σ H Q ∨ tDNotIn (rd X.K ct fa) (rdB X.K ct fb) σ H Q) (fun _ _ _ z => by rw [pNotIn_eq] at z; exact rd_in z) h⟩
end
end J
set_option Elab.async false
set_option linter.all false
set_option maxRecDepth 100000
/-! J: shared lists, what a name owns changed, targets of any form. -/
namespace J
open PySem L2

theorem nodup_at {α : Type} : ∀ {l : List α} {i j : Nat} {a : α}, l.Nodup → l[i]? = some a → l[j]? = some a → i = j
  | [], i, j, a, _, h, _ => by simp at h
  | x :: r, 0, 0, a, _, _, _ => rfl
  | x :: r, 0, j + 1, a, n, h1, h2 => by
    cases h1
    exact absurd (List.mem_of_getElem? (by simpa using h2)) (List.nodup_cons.mp n).1
  | x :: r, i + 1, 0, a, n, h1, h2 => by
    cases h2
    exact absurd (List.mem_of_getElem? (by simpa using h1)) (List.nodup_cons.mp n).1
  | x :: r, i + 1, j + 1, a, n, h1, h2 => congrArg Nat.succ (nodup_at (List.nodup_cons.mp n).2 (by simpa using h1) (by simpa using h2))
section
variable {K : PySem.W.Frag} {ct : Ct} {G : Gh} {σ : St} {H : Hp} {env : Env} {S : Sto}
/-- a shared list is written -/
theorem Good.mutSto {n : Nat} {a : Addr} {xs xs' : List PV} {vs' : List V} (g : Good K ct G σ H env S) (hA : G.A[n]? = some a) (hS : S[n]? = some xs) (r : RepL K ct H G.A G.M xs' vs') :
    Lat G.A G.M H G.A G.M (upd H a (.lst vs')) ∧ Good K ct G σ (upd H a (.lst vs')) env (S.set n xs') := by
  have ha : a ∈ G.A := List.mem_of_getElem? hA
  have l : Lat G.A G.M H G.A G.M (upd H a (.lst vs')) := lat_upd (.inl ha)
  have hM : ∀ p ∈ G.M, p ≠ a := fun p hp z => g.bs.disj p hp (z ▸ ha)
  refine ⟨l, ⟨⟨by rw [List.length_set]; exact g.bs.sto.len, fun m b ys h1 h2 => ?_⟩, g.bs.nodup, fun p hp => ?_, g.bs.disj, fun p hp vs ev => ?_⟩, fun j s hs => ?_, g.uniq, fun b o h0 hn => ?_, g.pre0, g.new0, g.sub0, g.in0, g.len⟩
  · rcases getSet h2 with ⟨rfl, rfl, _⟩ | ⟨hm, h2⟩
    · rw [hA] at h1; cases h1
      exact ⟨vs', upd_same, r.lat l _ _⟩
    · obtain ⟨us, h3, h4⟩ := g.bs.sto.at' m b ys h1 h2
      have hne : b ≠ a := fun z => by
        subst z
        exact hm (nodup_at g.bs.nodup hA h1)
      exact ⟨us, by rw [upd_ne hne]; exact h3, h4.lat l ys us⟩
  · rw [upd_ne (hM p hp)]; exact g.bs.inM p hp
  · rw [upd_ne (hM p hp)] at ev; exact g.bs.noT p hp vs ev
  · have q := g.slot j s hs
    cases s with
    | un => trivial
    | val v => obtain ⟨y, h1, h2⟩ := q; exact ⟨y, h1, h2.lat l v y⟩
    | own v => obtain ⟨p, h1, h2, h3, h4⟩ := q; exact ⟨p, h1, h2, h3, h4.lat l (upd_ne (hM p h2))⟩
  · have hne : b ≠ a := fun z => by
      subst z
      rcases g.new0 b ha with q | q
      · exact hn q
      · rw [q] at h0; cases h0
    rw [upd_ne hne]; exact g.ext0 b o h0 hn
end
/-! ### a new shared list -/
def eNew (a : FA) : FE := fun env S => (a env S).bind fun x => if x.1.length ≤ 1000000 then .ok (.obj x.2.length, x.2 ++ [x.1]) else .err
section
variable {ct : Ct} {X : Cx} {es : List Expr} {fr : FA} {pos : Pos}
theorem je_new (h : JA ct X es fr) : JE ct X (.List es pos) (eNew fr) := by
  refine ⟨(pe_lst h.pa).imp fun σ H Q h => ?_⟩
  obtain ⟨G, env, S, v, S', g, h1, q⟩ := h
  obtain ⟨⟨x, S1⟩, e1, h1⟩ := Res.bind_ok h1
  dsimp only at h1
  split at h1
  · rename_i hz
    cases h1
    refine ⟨G, env, S, x, _, g, e1, fun xs H1 A1 p1 s1 r1 => ⟨by rw [r1.length]; exact sz_mil hz, fun p np => ?_⟩⟩
    have g1 := g.post p1 s1
    have nA : p ∉ A1 := fun z => g1.inA p z np
    have sm : Same H1 (upd H1 p (.lst xs)) := same_new np
    have l : Lat A1 G.M H1 (A1 ++ [p]) G.M (upd H1 p (.lst xs)) := ⟨List.prefix_append _ _, fun b o e n m => ⟨sm b o e, (fun z => by
      rcases List.mem_append.mp z with z | z
      · exact n z
      · rw [List.mem_singleton] at z; subst z; rw [np] at e; cases e), m⟩⟩
    have po : Post A1 H1 (A1 ++ [p]) (upd H1 p (.lst xs)) := ⟨List.prefix_append _ _, fun b o e _ => sm b o e, fun b hb => by
      rcases List.mem_append.mp hb with z | z
      · exact .inl z
      · rw [List.mem_singleton] at z; subst z; exact .inr np, by
      rw [List.nodup_append]
      exact ⟨g1.bs.nodup, by simp, fun a ha b hb => by rw [List.mem_singleton] at hb; subst hb; exact fun z => nA (z ▸ ha)⟩⟩
    refine q _ _ (A1 ++ [p]) (p1.trans po) ⟨by rw [List.length_append, List.length_append, s1.len]; rfl, fun n a ys k1 k2 => ?_⟩ ?_
    · by_cases hn : n < A1.length
      · rw [List.getElem?_append_left hn] at k1
        rw [List.getElem?_append_left (by rw [s1.len]; exact hn)] at k2
        obtain ⟨vs, k3, k4⟩ := s1.at' n a ys k1 k2
        exact ⟨vs, sm _ _ k3, k4.lat l ys vs⟩
      · rw [List.getElem?_append_right (by omega)] at k1
        rw [List.getElem?_append_right (by rw [s1.len]; omega), s1.len] at k2
        cases hk : n - A1.length with
        | zero =>
          rw [hk] at k1 k2
          cases k1; cases k2
          exact ⟨xs, upd_same, r1.lat l _ _⟩
        | succ m => rw [hk] at k1; cases k1
    · simp only [Rep]
      exact ⟨p, rfl, by rw [s1.len, List.getElem?_append_right (Nat.le_refl _)]; simp⟩
  · cases h1
end
/-! ### targets of any form -/
abbrev GG := PV → Env → Sto → Res (Env × Sto)
abbrev GGs := List PV → Env → Sto → Res (Env × Sto)
section
variable (K : PySem.W.Frag) (ct : Ct)
def rdG (g : GG) : TG := fun x σ H Q => ∃ G env S v env' S', Good K ct G σ H env S ∧ Rep K ct H G.A G.M v x ∧ g v env S = .ok (env', S') ∧
  ∀ σ' H' A' M', Lat G.A G.M H A' M' H' → Good K ct { G with A := A', M := M' } σ' H' env' S' → Q σ' H'
def rdGs (g : GGs) : TGs := fun x σ H Q => ∃ G env S v env' S', Good K ct G σ H env S ∧ RepL K ct H G.A G.M v x ∧ g v env S = .ok (env', S') ∧
  ∀ σ' H' A' M', Lat G.A G.M H A' M' H' → Good K ct { G with A := A', M := M' } σ' H' env' S' → Q σ' H'
end
structure JG (ct : Ct) (X : Cx) (tg : Expr) (g : GG) : Prop where
  pg : PG X tg (rdG X.K ct g)
structure JGs (ct : Ct) (X : Cx) (tg : List Expr) (g : GGs) : Prop where
  pg : PGs X tg (rdGs X.K ct g)
def gOf (g : GN) : GG := fun v env S => (ofO (g v env)).bind fun e => .ok (e, S)
def ggNil : GGs := fun vs env S => match vs with
  | [] => .ok (env, S)
  | _ => .err
def ggCons (a : GG) (r : GGs) : GGs := fun vs env S => match vs with
  | v :: rs => (a v env S).bind fun x => r rs x.1 x.2
  | [] => .err
def ggT (n : Nat) (r : GGs) : GG := fun v env S => match v with
  | .tup xs => if xs.length = n then r xs env S else .err
  | _ => .err
def gDrop : GG := fun _ env S => .ok (env, S)
/-- o[i] = v of a shared list -/
def gSubO (fo fi : FE) : GG := fun v env S => (fo env S).bind fun o => (fi env o.2).bind fun i => match o.1, i.1 with
  | .obj n, .int k => match i.2[n]? with
    | some xs => (ofO (ixN xs.length k)).bind fun j => .ok (env, i.2.set n (xs.set j v))
    | none => .err
  | _, _ => .err
def dHas (ks : List PV) (k : PV) : Bool := ks.any fun x => decide (x = k)
def dSetV : List PV → List PV → PV → PV → List PV
  | k' :: ks, u :: vs, k, v => (if k' = k then v else u) :: dSetV ks vs k v
  | _, _, _, _ => []
def dPutK (ks : List PV) (k : PV) : List PV := if dHas ks k then ks else ks ++ [k]
def dPutV (ks vs : List PV) (k v : PV) : List PV := if dHas ks k then dSetV ks vs k v else vs ++ [v]
/-- x[i] = v, x owns a list or a dict -/
def gOwn (s : Nat) (fi : FE) : GG := fun v env S => (fi env S).bind fun i => match env[s]? with
  | some (.own (.lst xs)) => match i.1 with
    | .int k => (ofO (ixN xs.length k)).bind fun j => .ok (env.set s (.own (.lst (xs.set j v))), i.2)
    | _ => .err
  | some (.own (.dic t ks vs)) => if keyFit t i.1 && decide (ks.length < 1000000) then .ok (env.set s (.own (.dic t (dPutK ks i.1) (dPutV ks vs i.1 v))), i.2) else .err
  | _ => .err
section
variable {K : PySem.W.Frag} {ct : Ct} {H : Hp} {A M : List Addr}
theorem dHas_put {κ : Type} [DecidableEq κ] {e : κ → PV} (inj : ∀ a b, e a = e b → a = b) (k : κ) : ∀ (ws : List (κ × V)), dHas (ws.map fun w => e w.1) (e k) = ws.any fun kv => decide (kv.1 = k)
  | [] => rfl
  | w :: ws => by
    have ih := dHas_put inj k ws
    unfold dHas at ih ⊢
    rw [List.map_cons, List.any_cons, List.any_cons, ih]
    have : (decide (e w.1 = e k)) = decide (w.1 = k) := by
      by_cases h : w.1 = k
      · rw [decide_eq_true h, decide_eq_true (congrArg e h)]
      · rw [decide_eq_false h, decide_eq_false (fun z => h (inj _ _ z))]
    rw [this]
theorem dSet_rep {κ : Type} [DecidableEq κ] {e : κ → PV} (inj : ∀ a b, e a = e b → a = b) {k : κ} {v : PV} {x : V} (r : Rep K ct H A M v x) : ∀ (ws : List (κ × V)) (vs : List PV), RepL K ct H A M vs (ws.map (·.2)) →
    (ws.map fun kv => if kv.1 = k then (kv.1, x) else kv).map (fun w => e w.1) = ws.map (fun w => e w.1) ∧ RepL K ct H A M (dSetV (ws.map fun w => e w.1) vs (e k) v) ((ws.map fun kv => if kv.1 = k then (kv.1, x) else kv).map (·.2))
  | [], vs, h => by
    refine ⟨rfl, ?_⟩
    rw [List.map_nil, dSetV]
    exact .nil
    intros; simp_all
  | w :: ws, vs, h => by
    cases vs with
    | nil => have := h.length; simp at this
    | cons u vs =>
      obtain ⟨y, ys, e0, h1, h2⟩ := h.inv
      simp only [List.map_cons, List.cons.injEq] at e0
      obtain ⟨rfl, rfl⟩ := e0
      obtain ⟨i1, i2⟩ := dSet_rep inj r ws vs h2
      simp only [List.map_cons, dSetV]
      by_cases hk : w.1 = k
      · rw [if_pos hk, if_pos (congrArg e hk)]
        exact ⟨by rw [i1], .cons r i2⟩
      · rw [if_neg hk, if_neg (fun z => hk (inj _ _ z))]
        exact ⟨by rw [i1], .cons h1 i2⟩
theorem dPut_rep {κ : Type} [DecidableEq κ] {e : κ → PV} (inj : ∀ a b, e a = e b → a = b) {k : κ} {v : PV} {x : V} (r : Rep K ct H A M v x) (ws : List (κ × V)) (vs : List PV) (h : RepL K ct H A M vs (ws.map (·.2))) :
    dPutK (ws.map fun w => e w.1) (e k) = (putK ws k x).map (fun w => e w.1) ∧ RepL K ct H A M (dPutV (ws.map fun w => e w.1) vs (e k) v) ((putK ws k x).map (·.2)) := by
  unfold dPutK dPutV putK
  rw [dHas_put inj]
  by_cases hb : (ws.any fun kv => decide (kv.1 = k)) = true
  · rw [if_pos hb, if_pos hb, if_pos hb]
    obtain ⟨i1, i2⟩ := dSet_rep inj r ws vs h
    exact ⟨i1.symm, i2⟩
  · rw [if_neg hb, if_neg hb, if_neg hb]
    refine ⟨by simp, ?_⟩
    rw [List.map_append]
    exact h.append (.cons r .nil)
end
def rSetD : V → V → V → Hp → (Hp → Prop) → Prop := fun o i v H Q => ∃ a H', o = .ref a ∧ DPut H a i v H' ∧ Q H'
theorem set_dict {X : Cx} (hu : X.A.units + 1 < cLine) : PSet X rSetD := by
  intro pinsZ s σ H o i v ov iv u Q IZ ro ri rv h
  obtain ⟨a, H', rfl, g, q⟩ := h
  cases ro
  exact d_setItem hu IZ g ri rv fun s' I' => ⟨H', I', q⟩
def PSet.or {X : Cx} {t t' : TSet} (h : PSet X t) (h' : PSet X t') : PSet X (fun o i v H Q => t o i v H Q ∨ t' o i v H Q) := fun pins s σ H o i v ov iv u Q I ro ri rv q => q.elim (h pins s σ H o i v ov iv u Q I ro ri rv) (h' pins s σ H o i v ov iv u Q I ro ri rv)
section
variable {ct : Ct} {X : Cx} {e o i : Expr} {es : List Expr} {pos : Pos} {ws : List Nat} {g : GN} {gg : GG} {gs : GGs} {fo fi : FE}
theorem jg_n (h : JN ct X e ws g) : JG ct X e (gOf g) := by
  refine ⟨h.pg.imp fun v σ H Q h => ?_⟩
  obtain ⟨G, env, S, v, env', S', gd, r, e, q⟩ := h
  obtain ⟨en, e1, e2⟩ := Res.bind_ok e
  cases e2
  exact ⟨G, env, S, v, _, gd, r, ofO_ok e1, fun σ' _ _ g' => q σ' H G.A G.M (Lat.refl _ _ _) g'⟩
theorem jgs_nil : JGs ct X [] ggNil := by
  refine ⟨pgs_nil.imp fun v σ H Q h => ?_⟩
  obtain ⟨G, env, S, vs, env', S', gd, r, e, q⟩ := h
  cases vs with
  | nil => cases e; exact ⟨RepL.nil_iff.mp r, q σ H G.A G.M (Lat.refl _ _ _) gd⟩
  | cons _ _ => cases e
theorem jgs_cons (h1 : JG ct X e gg) (h2 : JGs ct X es gs) (hs : (assignEach (e :: es) X.env).map (·.2) = assign e X.env :: (assignEach es X.env).map (·.2) := by rfl) : JGs ct X (e :: es) (ggCons gg gs) := by
  refine ⟨(pgs_cons h1.pg h2.pg hs).imp fun v σ H Q h => ?_⟩
  obtain ⟨G, env, S, vs, env', S', gd, r, e, q⟩ := h
  cases vs with
  | nil => cases e
  | cons p ps =>
    obtain ⟨x, xs, rfl, r1, r2⟩ := r.inv
    obtain ⟨⟨en, S1⟩, e1, e2⟩ := Res.bind_ok e
    exact ⟨x, xs, rfl, G, env, S, p, en, S1, gd, r1, e1, fun σ1 H1 A1 M1 l1 g1 => ⟨_, en, S1, ps, env', S', g1, r2.lat l1 ps xs, e2, fun σ2 H2 A2 M2 l2 g2 => q σ2 H2 A2 M2 (l1.trans l2) g2⟩⟩
theorem jg_tup {k n : Nat} (hc : X.calm = true) (h : JGs ct X es gs) (hn : (assignEach es X.env).length = n := by rfl) (hst : (assignEach es X.env).findIdx? (·.1) = none := by rfl) : JG ct X (.Tuple es k pos) (ggT n gs) := by
  refine ⟨(pg_tup hc h.pg hn hst).imp fun v σ H Q h => ?_⟩
  obtain ⟨G, env, S, vs, env', S', gd, r, e, q⟩ := h
  cases vs with
  | tup xs =>
    obtain ⟨a, ys, rfl, hq, ry⟩ := r.tup_inv
    unfold ggT at e
    dsimp only at e
    split at e
    · rename_i hl
      exact ⟨a, ys, rfl, hq.sqT, by rw [ry.length]; exact hl, G, env, S, xs, env', S', gd, ry, e, q⟩
    · cases e
  | _ => cases e
theorem jg_sub (ho : JE ct X o fo) (hi : JE ct X i fi)
    (ha : ∀ u, assign (.Subscript o i pos) X.env u = (do let ou ← holding [u] (eval o X.env); let iu ← holding [u, ou] (eval i X.env); standAt pos; holding [u, ou, iu] (setItem ou iu u); release [u, ou, iu] []) := by intro _; rfl) : JG ct X (.Subscript o i pos) (gSubO fo fi) := by
  refine ⟨(pg_sub ho.pe hi.pe set_list ha).imp fun x σ H Q h => ?_⟩
  obtain ⟨G, env, S, v, env', S', gd, r, e, q⟩ := h
  obtain ⟨⟨ov, S1⟩, e1, e⟩ := Res.bind_ok e
  obtain ⟨⟨iv, S2⟩, e2, e⟩ := Res.bind_ok e
  refine ⟨G, env, S, ov, S1, gd, e1, fun x' H1 A1 p1 s1 r1 => ⟨{ G with A := A1 }, env, S1, iv, S2, gd.post p1 s1, e2, fun y' H2 A2 p2 s2 r2 => ?_⟩⟩
  have g2 := (gd.post p1 s1).post p2 s2
  have rv := (r.lat (p1.lat G.M) v x).lat (p2.lat G.M) v x
  have ro := r1.lat (p2.lat G.M) ov x'
  cases ov with
  | obj n =>
    cases iv with
    | int k =>
      dsimp only at e
      cases hxs : S2[n]? with
      | some xs =>
        rw [hxs] at e
        obtain ⟨j, e3, e⟩ := Res.bind_ok e
        cases e
        simp only [Rep] at ro
        obtain ⟨a, rfl, hA⟩ := ro
        obtain ⟨vs, hH, rx⟩ := g2.bs.sto.at' n a xs hA hxs
        rw [Rep.int_iff.mp r2]
        obtain ⟨l, g3⟩ := g2.mutSto hA hxs (rx.set j rv)
        exact ⟨a, vs, k, j, rfl, rfl, hH, by rw [rx.length]; exact ofO_ok e3, q σ _ A2 G.M (((p1.trans p2).lat G.M).trans l) g3⟩
      | none => rw [hxs] at e; cases e
    | _ => cases e
  | _ => cases e
theorem jg_own (s : Nat) {k : Nat} {z : Str} {pos' : Pos} (hr : Room k X.A) (hi : JE ct X i fi) (hN : X.N[s]? = some z := by rfl) (hv : Vis X.env.scope z := by first | exact Or.inl rfl | exact Or.inr (Or.inl rfl) | exact Or.inr (Or.inr rfl)) (hd : (z == ("__debug__" : Str)) = false := by decide) (hcd : (z == ("__classdict__" : Str)) = false := by decide)
    (ha : ∀ v, assign (.Subscript (.Name z pos') i pos) X.env v = (do
      let ov ← holding [v] (eval (.Name z pos') X.env)
      let ivZ ← holding [v, ov] (eval i X.env)
      standAt pos
      holding [v, ov, ivZ] (setItem ov ivZ v)
      release [v, ov, ivZ] []) := by intro _; rfl) : JG ct X (.Subscript (.Name z pos') i pos) (gOwn s fi) := by
  refine ⟨(pg_sub (pe_var hN hv hd hcd) hi.pe (PSet.or set_list (set_dict (hu_of hr))) ha).imp fun x σ H Q h => ?_⟩
  obtain ⟨G, env, S, v, env', S', gd, r, e, q⟩ := h
  obtain ⟨⟨ivZ, S1⟩, e1, e⟩ := Res.bind_ok e
  dsimp only at e
  cases hs : env[s]? with
  | none => rw [hs] at e; cases e
  | some sl =>
    rw [hs] at e
    cases sl with
    | un => cases e
    | val w => cases e
    | own w =>
      obtain ⟨p, hp, hM, h0, c⟩ := gd.slot s _ hs
      refine ⟨.ref p, hp, G, env, S, ivZ, S1, gd, e1, fun y' H1 A1 p1 s1 r1 => ?_⟩
      have g1 := gd.post p1 s1
      have rv := r.lat (p1.lat G.M) v x
      obtain ⟨p', hp', hM', h0', c1⟩ := g1.slot s _ hs
      rw [hp] at hp'; cases hp'
      cases w with
      | lst xs =>
        cases ivZ with
        | int k =>
          obtain ⟨j, e3, e⟩ := Res.bind_ok e
          cases e
          obtain ⟨vs, hH, rx⟩ := c1
          rw [Rep.int_iff.mp r1]
          refine .inl ⟨p, vs, k, j, rfl, rfl, hH, by rw [rx.length]; exact ofO_ok e3, ?_⟩
          exact q σ _ A1 G.M ((p1.lat G.M).trans (lat_upd (.inr hM))) (g1.mutOwn hs hp ⟨_, upd_same, (rx.set j rv).lat (lat_upd (.inr hM)) _ _⟩)
        | _ => cases e
      | dic t ks us =>
        dsimp only at e
        split at e
        · rename_i hz
          cases e
          rw [Bool.and_eq_true, decide_eq_true_eq] at hz
          have hlen : ∀ {n : Nat}, ks.length = n → n < sizeLine := fun {n} en => en ▸ Nat.lt_of_lt_of_le hz.2 (by decide)
          rcases c1 with ⟨rfl, ws, hH, rfl, rx⟩ | ⟨rfl, ws, hH, rfl, rx⟩
          · have hf : (keyOf ivZ).isSome = true := hz.1
            obtain ⟨k', hk'⟩ := Option.isSome_iff_exists.mp hf
            have ek := keyOf_eq hk'
            subst ek
            have ey := r1.key
            subst ey
            obtain ⟨i1, i2⟩ := dPut_rep (e := keyV) (fun _ _ z => keyV_inj z) (k := k') rv ws us rx
            refine .inr ⟨p, _, rfl, .inl ⟨ws, k', hH, rfl, hlen (by simp), rfl⟩, ?_⟩
            refine q σ _ A1 G.M ((p1.lat G.M).trans (lat_upd (.inr hM))) (g1.mutOwn hs hp (.inl ⟨rfl, _, upd_same, ?_, ?_⟩))
            · exact i1
            · exact i2.lat (lat_upd (.inr hM)) _ _
          · cases ivZ with
            | tup ps =>
              have hf : (keysOf ps).isSome = true := hz.1
              obtain ⟨k', hk'⟩ := Option.isSome_iff_exists.mp hf
              have ek := keysOf_eq hk'
              subst ek
              obtain ⟨b, bs, rfl, hb, hu⟩ := r1.tup_inv
              have eu := hu.keys
              subst eu
              obtain ⟨i1, i2⟩ := dPut_rep (e := fun l : List Key => PV.tup (l.map keyV)) (fun _ _ z => tupKey_inj z) (k := k') rv ws us rx
              refine .inr ⟨p, _, rfl, .inr ⟨ws, k', b, hH, rfl, hb.1, hlen (by simp), rfl⟩, ?_⟩
              refine q σ _ A1 G.M ((p1.lat G.M).trans (lat_upd (.inr hM))) (g1.mutOwn hs hp (.inr ⟨rfl, _, upd_same, ?_, ?_⟩))
              · exact i1
              · exact i2.lat (lat_upd (.inr hM)) _ _
            | _ => cases hz.1
        · cases e
      | _ => exact False.elim c
end
def sAsgG (a : FE) (g : GG) : FS := fun env S => (a env S).bind fun x => (g x.1 env x.2).bind fun r => .ok (.nx r.1 r.2)
section
variable {ct : Ct} {X : Cx} {e tg : Expr} {fe : FE} {es : List Expr} {pos : Pos} {gg : GG}
theorem js_asgG (he : JE ct X e fe) (hg : JG ct X tg gg) (hs : swapsWithSole [tg] e pos.line X.env = pure false := by rfl) (hw : swappedStores [tg] e X.env = pure none := by rfl)
    (h1 : (assignEach [tg] X.env).map (·.2) = [assign tg X.env] := by rfl) : JS ct X (.Assign [tg] e pos) (sAsgG fe gg) := by
  refine ⟨(ps_asg he.pe hg.pg hs hw h1).imp fun D σ H h => ?_⟩
  obtain ⟨G, env, S, fl, gd, e, h⟩ := h
  obtain ⟨⟨x, S1⟩, e1, e2⟩ := Res.bind_ok e
  obtain ⟨⟨en, S2⟩, e3, e2⟩ := Res.bind_ok e2
  cases e2
  exact ⟨G, env, S, x, S1, gd, e1, fun y H1 A1 p s r => ⟨_, env, S1, x, en, S2, gd.post p s, r, e3, fun σ' H' A' M' l g' => h σ' H' A' M' ((p.lat G.M).trans l) g'⟩⟩
end
end J
set_option Elab.async false
set_option linter.all false
set_option maxRecDepth 100000
/-! J: methods of what a name owns; dicts made, asked, gone through; repeats. -/
namespace J
open PySem L2

/-- x.append(e) -/
def sApp (i : Nat) (fe : FE) : FS := fun env S => (fe env S).bind fun x => match env[i]? with
  | some (.own (.lst xs)) => if xs.length < 1000000 then .ok (.nx (env.set i (.own (.lst (xs ++ [x.1])))) x.2) else .err
  | _ => .err
/-- target = x.pop() -/
def sPop (i : Nat) (g : GG) : FS := fun env S => match env[i]? with
  | some (.own (.lst xs)) => match xs[xs.length - 1]? with
    | some y => (g y (env.set i (.own (.lst xs.dropLast))) S).bind fun r => .ok (.nx r.1 r.2)
    | none => .err
  | _ => .err
theorem RepL.dropLast {K : PySem.W.Frag} {ct : Ct} {H : Hp} {A M : List Addr} {ps : List PV} {vs : List V} (h : RepL K ct H A M ps vs) : RepL K ct H A M ps.dropLast vs.dropLast := by
  rw [List.dropLast_eq_take, List.dropLast_eq_take, h.length]
  exact h.take _
section
variable {ct : Ct} {X : Cx} {e tg : Expr} {fe : FE} {apos cpos pos : Pos} {gg : GG}
theorem js_append (i : Nat) {z : Str} {pos' : Pos} (he : JE ct X e fe) (hN : X.N[i]? = some z := by rfl) (hv : Vis X.env.scope z := by first | exact Or.inl rfl | exact Or.inr (Or.inl rfl) | exact Or.inr (Or.inr rfl)) (hd : (z == ("__debug__" : Str)) = false := by decide) (hcd : (z == ("__classdict__" : Str)) = false := by decide)
    (hs : swapsWith (.Call (.Attribute (.Name z pos') "append" apos) [e] [] cpos) none pos.line X.env = pure false := by rfl)
    (hbase : attributeBase (.Name z pos') "append" X.env (eval (.Name z pos') X.env) = eval (.Name z pos') X.env := by rfl)
    (hfewZ : ((backTo cpos (starEach [e] X.env)).all (fun x => !x.1) && (backToKw cpos (keywordEach [] X.env)).all (fun x => x.1.isSome) && decide (([e] : List Expr).length + ([] : List Keyword).length + (if ([] : List Keyword).isEmpty then 0 else 1) < 30)) = true := by rfl)
    (hline : (apos.endLine == cpos.line) = true := by rfl) (hst : starEach [e] X.env = (false, eval e X.env) :: starEach [] X.env := by rfl) : JS ct X (.Expr (.Call (.Attribute (.Name z pos') "append" apos) [e] [] cpos) pos) (sApp i fe) := by
  refine ⟨(ps_expr (pe_bm F.plainAttrs_list F.slot_list_append F.type_list_append mt_append (pe_var hN hv hd hcd) (ja_cons he ja_nil hst).pa hbase hfewZ hline hst rfl) hs).imp fun D σ H h => ?_⟩
  obtain ⟨G, env, S, fl, g, e0, h⟩ := h
  obtain ⟨⟨y, S1⟩, e1, e2⟩ := Res.bind_ok e0
  dsimp only at e2
  cases hsl : env[i]? with
  | none => rw [hsl] at e2; cases e2
  | some sl =>
    rw [hsl] at e2
    cases sl with
    | un => cases e2
    | val w => cases e2
    | own w =>
      obtain ⟨p, hp, hM, h0, c⟩ := g.slot i _ hsl
      cases w with
      | lst xs =>
        dsimp only at e2
        split at e2
        · rename_i hz
          cases e2
          obtain ⟨vs, hH, rx⟩ := c
          refine ⟨.ref p, hp, .inl ⟨rfl, vs, .inl (.inl hH)⟩, G, env, S, [y], S1, g, ?_, fun ys H1 A1 p1 s1 r1 => ?_⟩
          · show (fe env S).bind _ = _
            rw [e1]; rfl
          have g1 := g.post p1 s1
          obtain ⟨p', hp', hM', h0', c1⟩ := g1.slot i _ hsl
          rw [hp] at hp'; cases hp'
          obtain ⟨vs1, hH1, rx1⟩ := c1
          obtain ⟨yv, rfl, ry⟩ := r1.one
          refine ⟨p, vs1, yv, rfl, rfl, hH1, ?_, ?_⟩
          · rw [rx1.length]; exact Nat.lt_of_lt_of_le hz (by decide)
          · exact h σ _ A1 G.M ((p1.lat G.M).trans (lat_upd (.inr hM))) (g1.mutOwn hsl hp ⟨_, upd_same, (rx1.append (.cons ry .nil)).lat (lat_upd (.inr hM)) _ _⟩)
        · cases e2
      | _ => cases e2
theorem js_pop (i : Nat) {z : Str} {pos' : Pos} (hg : JG ct X tg gg) (hN : X.N[i]? = some z := by rfl) (hv : Vis X.env.scope z := by first | exact Or.inl rfl | exact Or.inr (Or.inl rfl) | exact Or.inr (Or.inr rfl)) (hd : (z == ("__debug__" : Str)) = false := by decide) (hcd : (z == ("__classdict__" : Str)) = false := by decide)
    (hs : swapsWithSole [tg] (.Call (.Attribute (.Name z pos') "pop" apos) [] [] cpos) pos.line X.env = pure false := by rfl) (hw : swappedStores [tg] (.Call (.Attribute (.Name z pos') "pop" apos) [] [] cpos) X.env = pure none := by rfl)
    (h1 : (assignEach [tg] X.env).map (·.2) = [assign tg X.env] := by rfl)
    (hbase : attributeBase (.Name z pos') "pop" X.env (eval (.Name z pos') X.env) = eval (.Name z pos') X.env := by rfl)
    (hline : (apos.endLine == cpos.line) = true := by rfl) : JS ct X (.Assign [tg] (.Call (.Attribute (.Name z pos') "pop" apos) [] [] cpos) pos) (sPop i gg) := by
  refine ⟨(ps_asg (pe_bm0 F.plainAttrs_list F.slot_list_pop F.type_list_pop mt_pop (pe_var hN hv hd hcd) hbase hline) hg.pg hs hw h1).imp fun D σ H h => ?_⟩
  obtain ⟨G, env, S, fl, g, e0, h⟩ := h
  unfold sPop at e0
  cases hsl : env[i]? with
  | none => rw [hsl] at e0; cases e0
  | some sl =>
    rw [hsl] at e0
    cases sl with
    | un => cases e0
    | val w => cases e0
    | own w =>
      obtain ⟨p, hp, hM, h0, c⟩ := g.slot i _ hsl
      cases w with
      | lst xs =>
        dsimp only at e0
        cases hy : xs[xs.length - 1]? with
        | none => rw [hy] at e0; cases e0
        | some y =>
          rw [hy] at e0
          obtain ⟨⟨en, S2⟩, e3, e4⟩ := Res.bind_ok e0
          cases e4
          obtain ⟨vs, hH, rx⟩ := c
          obtain ⟨yv, hyv, ry⟩ := rx.get hy
          refine ⟨.ref p, hp, .inl ⟨rfl, vs, .inl (.inl hH)⟩, p, vs, yv, rfl, rfl, hH, by rw [rx.length]; exact hyv, ?_⟩
          have l : Lat G.A G.M H G.A G.M (upd H p (.lst vs.dropLast)) := lat_upd (.inr hM)
          exact ⟨G, env.set i (.own (.lst xs.dropLast)), S, y, en, S2, g.mutOwn (w := .lst xs.dropLast) hsl hp ⟨_, upd_same, rx.dropLast.lat l _ _⟩, ry.lat l y yv, e3, fun σ' H' A' M' l' g' => h σ' H' A' M' (l.trans l') g'⟩
      | _ => cases e0
end
/-! ### dicts made and asked -/
theorem fresh_dic {K : PySem.W.Frag} {ct : Ct} {G : Gh} {σ : St} {env : Env} {H : Hp} {S : Sto} {p : Addr} {o : HO} {v : PV} (g : Good K ct G σ H env S) (np : H p = none) (ho : ∀ vs, o ≠ .tup vs) (c : Cont K ct (upd H p o) G.A (p :: G.M) p v) :
    Post G.A H G.A (upd H p o) ∧ p ∉ G.A ∧ StoOk K ct (upd H p o) G.A (p :: G.M) S := by
  have sm : Same H (upd H p o) := same_new np
  exact ⟨Post.grow g.bs.nodup sm, fun z => g.inA p z np, (g.hide np sm (by rw [upd_same]; simp) (by rw [upd_same]; intro vs e; exact ho vs (Option.some.inj e))).bs.sto⟩
section
variable {ct : Ct} {X : Cx} {a b c : Expr} {fa fb fc : FE} {pos apos cpos : Pos}
theorem jf_dict (t : Bool) : JF ct X (.Dict [] [] pos) (eC (.dic t [] [])) := by
  cases t with
  | false =>
    refine ⟨pe_dnewK.imp fun σ H Q h => ?_⟩
    obtain ⟨G, env, S, v, S', g, h1, q⟩ := h
    cases h1
    intro p np
    have c : Cont X.K ct (upd H p (.dK [])) G.A (p :: G.M) p (.dic false [] []) := .inl ⟨rfl, [], upd_same, rfl, .nil⟩
    obtain ⟨k1, k2, k3⟩ := fresh_dic g np (fun _ => by simp) c
    exact q p _ G.A k1 np k2 k3 c
  | true =>
    refine ⟨pe_dnewT.imp fun σ H Q h => ?_⟩
    obtain ⟨G, env, S, v, S', g, h1, q⟩ := h
    cases h1
    intro p np
    have c : Cont X.K ct (upd H p (.dT [])) G.A (p :: G.M) p (.dic true [] []) := .inr ⟨rfl, [], upd_same, rfl, .nil⟩
    obtain ⟨k1, k2, k3⟩ := fresh_dic g np (fun _ => by simp) c
    exact q p _ G.A k1 np k2 k3 c
theorem RepB.isD {K : PySem.W.Frag} {H : Hp} {A M : List Addr} {t : Bool} {ks vs : List PV} {x : V} (r : RepB K ct H A M (.dic t ks vs) x) : ∃ a, x = .ref a ∧ IsD H a := by
  rcases r with r | ⟨p, rfl, _, c⟩
  · simp only [Rep] at r
    obtain ⟨a, rfl, r⟩ := r
    rcases r with ⟨ht, ws, h1, h2, h3⟩ | ⟨ht, ws, h1, h2, h3⟩
    · exact ⟨a, rfl, .inl ⟨ws, h1.rd⟩⟩
    · exact ⟨a, rfl, .inr ⟨ws, h1.rd⟩⟩
  · rcases c with ⟨ht, ws, h1, h2, h3⟩ | ⟨ht, ws, h1, h2, h3⟩
    · exact ⟨p, rfl, .inl ⟨ws, .inl h1⟩⟩
    · exact ⟨p, rfl, .inr ⟨ws, .inl h1⟩⟩
/-- d.get(k, x) -/
def eGet (fd fk fx : FE) : FE := fun env S => (fd env S).bind fun d => (fk env d.2).bind fun k => (fx env k.2).bind fun x => match d.1 with
  | .dic t ks vs => if keyFit t k.1 then .ok ((dGet ks vs k.1).getD x.1, x.2) else .err
  | _ => .err
theorem je_get {k : Nat} (hr : Room k X.A) (ha : JB ct X a fa) (hb : JE ct X b fb) (hc : JE ct X c fc) (m : M2 X a "get" apos b c cpos := by exact ⟨rfl, rfl, rfl, rfl⟩) : JE ct X (.Call (.Attribute a "get" apos) [b, c] [] cpos) (eGet fa fb fc) := by
  refine ⟨(pe_dget2 (hu_of hr) ha.pe hb.pe hc.pe m).imp fun σ H Q h => ?_⟩
  obtain ⟨G, env, S, v, S', g, h1, q⟩ := h
  obtain ⟨⟨d, S1⟩, e1, h1⟩ := Res.bind_ok h1
  obtain ⟨⟨y, S2⟩, e2, h1⟩ := Res.bind_ok h1
  obtain ⟨⟨x, S3⟩, e3, h1⟩ := Res.bind_ok h1
  cases d with
  | dic t ks vs =>
    dsimp only at h1
    split at h1
    · rename_i hf
      cases h1
      refine ⟨G, env, S, _, S1, g, e1, fun d' H1 A1 p1 s1 r1 => ?_⟩
      obtain ⟨ad, rfl, isd⟩ := r1.isD
      have g1 := g.post p1 s1
      refine ⟨ad, rfl, isd, ⟨{ G with A := A1 }, env, S1, y, S2, g1, e2, fun y' H2 A2 p2 s2 r2 => ⟨{ G with A := A2 }, env, S2, x, _, g1.post p2 s2, e3, fun x' H3 A3 p3 s3 r3 => ?_⟩⟩⟩
      have g2 := g1.post p2 s2
      have rd3 := (r1.lat p2 g1.bs.disj).lat p3 g2.bs.disj
      have ry3 := r2.lat (p3.lat G.M) y y'
      obtain ⟨ad', o, ea, dg, hh⟩ := dict_get rd3 ry3 hf
      cases ea
      refine ⟨o, dg, ?_⟩
      have po := (p1.trans p2).trans p3
      rcases hh with ⟨v, w, c1, c2, c3⟩ | ⟨c1, c2⟩
      · subst c2
        exact q _ H3 A3 po s3 (by rw [c1]; exact c3)
      · subst c2
        exact q _ H3 A3 po s3 (by rw [c1]; exact r3)
    · cases h1
  | _ => cases h1
end
/-! ### for k in d -/
def iKey (f : FE) : FA := fun env S => (f env S).bind fun x => match x.1 with
  | .dic _ ks _ => .ok (ks, x.2)
  | _ => .err
section
variable {ct : Ct} {X : Cx} {tg e : Expr} {f : FE}
theorem it_keysK {K : PySem.W.Frag} {A M : List Addr} {H : Hp} {d : Addr} {o : Obj} {ws : List (Key × V)} (h : H d = some (.frz o (.dK ws))) (nA : d ∉ A) (nM : d ∉ M) : ItOk K ct (Itk d o ws) A M H (ws.map fun w => keyV w.1) := fun A' M' H' l hx => by
  obtain ⟨h', _, _⟩ := l.vis d _ h nA nM
  rw [List.length_map]
  refine ⟨fun i hi => ⟨h', hi⟩, ⟨h', Nat.le_refl _⟩, fun i x H'' hi y => ?_⟩
  obtain ⟨e, k, v, e1, e2⟩ := y
  subst e e2
  refine ⟨Same.refl _, keyV k, by rw [List.getElem?_map, e1]; rfl, ?_⟩
  cases k with
  | inl i => exact Rep.int_iff.mpr rfl
  | inr i => exact Rep.str_iff.mpr rfl
theorem it_keysT {K : PySem.W.Frag} {A M : List Addr} {H : Hp} {d : Addr} {o : Obj} {ws : List (List Key × V)} (h : H d = some (.frz o (.dT ws))) (nA : d ∉ A) (nM : d ∉ M) : ItOk K ct (Itkt d o ws) A M H (ws.map fun w => .tup (w.1.map keyV)) := fun A' M' H' l hx => by
  obtain ⟨h', _, _⟩ := l.vis d _ h nA nM
  rw [List.length_map]
  refine ⟨fun i hi => ⟨h', hi⟩, ⟨h', Nat.le_refl _⟩, fun i x H'' hi y => ?_⟩
  obtain ⟨e, k, v, q, e1, e2, e3⟩ := y
  subst e e2
  refine ⟨Same.refl _, .tup (k.map keyV), by rw [List.getElem?_map, e1]; rfl, ?_⟩
  simp only [Rep]
  exact ⟨q, _, rfl, ⟨e3, fun z => hx.noA q z _ e3, fun z => hx.noM q z _ e3⟩, RepL.of_keys k⟩
theorem ji_keys (h : JE ct X e f) : JI ct X tg e (iKey f) := by
  refine ⟨(pi_keys h.pe).imp fun σ H R q => ?_⟩
  obtain ⟨G, env, S, v, S', g, h1, q⟩ := q
  obtain ⟨⟨x, S1⟩, e1, h1⟩ := Res.bind_ok h1
  cases x with
  | dic t ks vs =>
    cases h1
    refine ⟨G, env, S, _, _, g, e1, fun y H1 A1 p1 s1 r1 => ?_⟩
    simp only [Rep] at r1
    obtain ⟨a, rfl, r1⟩ := r1
    rcases r1 with ⟨ht, ws, ⟨⟨o, h8⟩, h2, h3⟩, rfl, h5⟩ | ⟨ht, ws, ⟨⟨o, h8⟩, h2, h3⟩, rfl, h5⟩
    · exact ⟨a, o, rfl, .inl ⟨ws, h8, q _ H1 A1 p1 s1 (it_keysK h8 h2 h3)⟩⟩
    · exact ⟨a, o, rfl, .inr ⟨ws, h8, q _ H1 A1 p1 s1 (it_keysT h8 h2 h3)⟩⟩
  | _ => cases h1
end
/-! ### repeats -/
def repP (n : Nat) (xs : List PV) : List PV := (List.replicate n xs).flatten
theorem RepL.rep {K : PySem.W.Frag} {ct : Ct} {H : Hp} {A M : List Addr} {ps : List PV} {vs : List V} (h : RepL K ct H A M ps vs) : ∀ n, RepL K ct H A M (repP n ps) (List.replicate n vs).flatten
  | 0 => by unfold repP; exact .nil
  | n + 1 => by
    unfold repP
    simp only [List.replicate_succ, List.flatten_cons]
    exact h.append (h.rep n)
def pRep : PV → PV → Option PV
  | .lst xs, .int k => if -1000000 ≤ k ∧ k ≤ 1000000 ∧ xs.length * k.toNat ≤ 1000000 then some (.lst (repP k.toNat xs)) else none
  | .tup xs, .int k => if xs.length = 1 ∧ 0 ≤ k ∧ k ≤ 1000 ∧ 2 ≤ k then some (.tup (repP k.toNat xs)) else none
  | _, _ => none
section
variable {ct : Ct} {X : Cx} {a b : Expr} {fa fb : FE} {pos : Pos}
theorem ok_rep {K : PySem.W.Frag} : OpOk K ct (fun x y H Q => rRep x y H Q ∨ rRepT K x y H Q) pRep := fun H A M x y vx vy v Q hx rx ry e q => by
  unfold pRep at e
  split at e
  · rename_i xs k
    split at e
    · rename_i hz
      cases e
      rw [ry.int]
      obtain ⟨ad, vs, rfl, k1, k2⟩ := rx.lst
      refine .inl ⟨ad, k, vs, rfl, rfl, k1, by omega, by omega, by rw [k2.length]; exact sz_mil hz.2.2, fun p np => ?_⟩
      obtain ⟨k3, k4⟩ := hx.new_lst (k2.rep k.toNat) np
      exact q _ _ k3 k4
    · cases e
  · rename_i xs k
    split at e
    · rename_i hz
      cases e
      rw [ry.int]
      obtain ⟨ad, vs, rfl, k1, k2⟩ := rx.tup
      refine .inr ⟨ad, k, vs, rfl, rfl, k1.sqT, ?_, by omega, by omega, by rw [k2.length]; omega, fun p np => ?_⟩
      · intro z; have := k2.length; rw [z] at this; simp at this; omega
      obtain ⟨k3, k4⟩ := hx.new_tup (k2.rep k.toNat) np
      exact q _ _ k3 k4
    · cases e
  · cases e
theorem OpR.or {X : Cx} {f : Value → Value → Sem Value} {r r' : R2} (h : OpR X f r) (h' : OpR X f r') : OpR X f (fun x y H Q => r x y H Q ∨ r' x y H Q) := fun pins s σ H x y v u Q I rx ry q => q.elim (h pins s σ H x y v u Q I rx ry) (h' pins s σ H x y v u Q I rx ry)
theorem je_rep (ha : JB ct X a fa) (hb : JB ct X b fb) : JE ct X (.BinOp a .Mult b pos) (eOp pRep fa fb) := je_op (OpR.or op_rep op_repT) ok_rep ha hb
end
end J
set_option Elab.async false
set_option linter.all false
set_option maxRecDepth 100000
/-! J: the order of data, sorted. -/
namespace J
open PySem L2

/-- what a value of the data may look like -/
inductive Ty where
  | int
  | str
  | seq (t : Ty)
  | lseq (t : Ty)
  | two (a b : Ty)
  | three (a b c : Ty)
def hasTy : Ty → PV → Bool
  | .int, .int _ => true
  | .str, .str x => isD (.str x)
  | .seq t, .tup xs => xs.all (hasTy t)
  | .lseq t, .lst xs => xs.all (hasTy t)
  | .two a b, .tup [x, y] => hasTy a x && hasTy b y
  | .three a b c, .tup [x, y, z] => hasTy a x && (hasTy b y && hasTy c z)
  | _, _ => false
def tyD : Ty → Nat
  | .int => 0
  | .str => 0
  | .seq t => tyD t + 1
  | .lseq t => tyD t + 1
  | .two a b => max (tyD a) (tyD b) + 1
  | .three a b c => max (tyD a) (max (tyD b) (tyD c)) + 1
mutual
def ltP : PV → PV → Bool
  | .int i, .int j => decide (i < j)
  | .str x, .str y => decide (x.cps.toList < y.cps.toList)
  | .tup xs, .tup ys => ltPL xs ys
  | .lst xs, .lst ys => ltPL xs ys
  | _, _ => false
def ltPL : List PV → List PV → Bool
  | [], [] => false
  | [], _ :: _ => true
  | _ :: _, [] => false
  | x :: xs, y :: ys => if eqP x y then ltPL xs ys else ltP x y
end
theorem all_isDL {f : PV → Bool} (h : ∀ x, f x = true → isD x = true) : ∀ (xs : List PV), xs.all f = true → isDL xs = true
  | [], _ => rfl
  | x :: r, e => by
    rw [List.all_cons, Bool.and_eq_true] at e
    simp only [isDL, Bool.and_eq_true]
    exact ⟨h x e.1, all_isDL h r e.2⟩
theorem hasTy_int {v : PV} (h : hasTy .int v = true) : ∃ i, v = .int i := by
  cases v with
  | int i => exact ⟨i, rfl⟩
  | _ => cases h
theorem hasTy_str {v : PV} (h : hasTy .str v = true) : ∃ x, v = .str x ∧ isD (.str x) = true := by
  cases v with
  | str x => exact ⟨x, rfl, h⟩
  | _ => cases h
theorem hasTy_seq {t : Ty} {v : PV} (h : hasTy (.seq t) v = true) : ∃ xs, v = .tup xs ∧ xs.all (hasTy t) = true := by
  cases v with
  | tup xs => exact ⟨xs, rfl, h⟩
  | _ => cases h
theorem hasTy_lseq {t : Ty} {v : PV} (h : hasTy (.lseq t) v = true) : ∃ xs, v = .lst xs ∧ xs.all (hasTy t) = true := by
  cases v with
  | lst xs => exact ⟨xs, rfl, h⟩
  | _ => cases h
theorem hasTy_two {a b : Ty} {v : PV} (h : hasTy (.two a b) v = true) : ∃ x y, v = .tup [x, y] ∧ hasTy a x = true ∧ hasTy b y = true := by
  cases v with
  | tup xs =>
    match xs, h with
    | [x, y], h =>
      have h' : (hasTy a x && hasTy b y) = true := h
      rw [Bool.and_eq_true] at h'
      exact ⟨x, y, rfl, h'.1, h'.2⟩
    | [], h => cases h
    | [_], h => cases h
    | _ :: _ :: _ :: _, hq => cases hq
  | _ => cases h
theorem hasTy_three {a b c : Ty} {v : PV} (h : hasTy (.three a b c) v = true) : ∃ x y z, v = .tup [x, y, z] ∧ hasTy a x = true ∧ hasTy b y = true ∧ hasTy c z = true := by
  cases v with
  | tup xs =>
    match xs, h with
    | [x, y, z], h =>
      have hZ' : (hasTy a x && (hasTy b y && hasTy c z)) = true := h
      rw [Bool.and_eq_true, Bool.and_eq_true] at hZ'
      exact ⟨x, y, z, rfl, hZ'.1, hZ'.2.1, hZ'.2.2⟩
    | [], h => cases h
    | [_], h => cases h
    | [_, _], h => cases h
    | _ :: _ :: _ :: _ :: _, hq => cases hq
  | _ => cases h
theorem hasTy_isD : ∀ (t : Ty) (v : PV), hasTy t v = true → isD v = true
  | .int, v, h => by obtain ⟨i, rfl⟩ := hasTy_int h; rfl
  | .str, v, h => by obtain ⟨i, rfl, h⟩ := hasTy_str h; exact h
  | .seq t, v, h => by
    obtain ⟨xs, rfl, h⟩ := hasTy_seq h
    simp only [isD]; exact all_isDL (hasTy_isD t) xs h
  | .lseq t, v, h => by
    obtain ⟨xs, rfl, h⟩ := hasTy_lseq h
    simp only [isD]; exact all_isDL (hasTy_isD t) xs h
  | .two a b, v, h => by
    obtain ⟨x, y, rfl, h1, h2⟩ := hasTy_two h
    simp only [isD, isDL, Bool.and_true, Bool.and_eq_true]
    exact ⟨hasTy_isD a x h1, hasTy_isD b y h2⟩
  | .three a b c, v, h => by
    obtain ⟨x, y, z, rfl, h1, h2, h3⟩ := hasTy_three h
    simp only [isD, isDL, Bool.and_true, Bool.and_eq_true]
    exact ⟨hasTy_isD a x h1, hasTy_isD b y h2, hasTy_isD c z h3⟩
theorem all_dp {f : PV → Bool} {n : Nat} (h : ∀ x, f x = true → dpP x ≤ n) : ∀ (xs : List PV), xs.all f = true → dpPL xs ≤ n
  | [], _ => by simp [dpPL]
  | x :: r, e => by
    rw [List.all_cons, Bool.and_eq_true] at e
    simp only [dpPL]
    have := h x e.1
    have := all_dp h r e.2
    omega
theorem hasTy_dp : ∀ (t : Ty) (v : PV), hasTy t v = true → dpP v ≤ tyD t
  | .int, v, h => by obtain ⟨i, rfl⟩ := hasTy_int h; simp [dpP]
  | .str, v, h => by obtain ⟨i, rfl, h⟩ := hasTy_str h; simp [dpP]
  | .seq t, v, h => by
    obtain ⟨xs, rfl, h⟩ := hasTy_seq h
    simp only [dpP, tyD]
    have := all_dp (hasTy_dp t) xs h
    omega
  | .lseq t, v, h => by
    obtain ⟨xs, rfl, h⟩ := hasTy_lseq h
    simp only [dpP, tyD]
    have := all_dp (hasTy_dp t) xs h
    omega
  | .two a b, v, h => by
    obtain ⟨x, y, rfl, h1, h2⟩ := hasTy_two h
    simp only [dpP, dpPL, tyD]
    have := hasTy_dp a x h1
    have := hasTy_dp b y h2
    omega
  | .three a b c, v, h => by
    obtain ⟨x, y, z, rfl, h1, h2, h3⟩ := hasTy_three h
    simp only [dpP, dpPL, tyD]
    have := hasTy_dp a x h1
    have := hasTy_dp b y h2
    have := hasTy_dp c z h3
    omega
theorem all_alike {f : PV → Bool} (h : ∀ x y, f x = true → f y = true → W.alike (toD x) (toD y) = true) : ∀ (xs ys : List PV), xs.all f = true → ys.all f = true → W.alikeAll (toDL xs) (toDL ys) = true
  | [], _, _, _ => by simp only [toDL, W.alikeAll]
  | x :: r, [], _, _ => by simp only [toDL, W.alikeAll]
  | x :: r, y :: s, e1, e2 => by
    rw [List.all_cons, Bool.and_eq_true] at e1 e2
    simp only [toDL, W.alikeAll, Bool.and_eq_true]
    exact ⟨h x y e1.1 e2.1, all_alike h r s e1.2 e2.2⟩
theorem hasTy_alike : ∀ (t : Ty) (u v : PV), hasTy t u = true → hasTy t v = true → W.alike (toD u) (toD v) = true
  | .int, u, v, h, k => by obtain ⟨i, rfl⟩ := hasTy_int h; obtain ⟨j, rfl⟩ := hasTy_int k; simp only [toD, W.alike]
  | .str, u, v, h, k => by obtain ⟨i, rfl, _⟩ := hasTy_str h; obtain ⟨j, rfl, _⟩ := hasTy_str k; simp only [toD, W.alike]
  | .seq t, u, v, h, k => by
    obtain ⟨xs, rfl, h⟩ := hasTy_seq h
    obtain ⟨ys, rfl, k⟩ := hasTy_seq k
    simp only [toD, W.alike]; exact all_alike (hasTy_alike t) xs ys h k
  | .lseq t, u, v, h, k => by
    obtain ⟨xs, rfl, h⟩ := hasTy_lseq h
    obtain ⟨ys, rfl, k⟩ := hasTy_lseq k
    simp only [toD, W.alike]; exact all_alike (hasTy_alike t) xs ys h k
  | .two a b, u, v, h, k => by
    obtain ⟨x, y, rfl, h1, h2⟩ := hasTy_two h
    obtain ⟨x', y', rfl, k1, k2⟩ := hasTy_two k
    simp only [toD, toDL, W.alike, W.alikeAll, Bool.and_true, Bool.and_eq_true]
    exact ⟨hasTy_alike a x x' h1 k1, hasTy_alike b y y' h2 k2⟩
  | .three a b c, u, v, h, k => by
    obtain ⟨x, y, z, rfl, h1, h2, h3⟩ := hasTy_three h
    obtain ⟨x', y', z', rfl, k1, k2, k3⟩ := hasTy_three k
    simp only [toD, toDL, W.alike, W.alikeAll, Bool.and_true, Bool.and_eq_true]
    exact ⟨hasTy_alike a x x' h1 k1, hasTy_alike b y y' h2 k2, hasTy_alike c z z' h3 k3⟩
theorem eqv_ty {t : Ty} {x y : PV} (hx : hasTy t x = true) (hy : hasTy t y = true) : PyData.eqv (toD x) (toD y) = eqP x y := eqv_toD x y (hasTy_isD t x hx) (hasTy_isD t y hy)
abbrev lexD (xs ys : List PyData) : Bool := PyProof.Rows.lexLt PyProof.Rows.itemOrd (W.keyToksAll xs) (W.keyToksAll ys)
theorem lexD_nil : lexD [] [] = false := PyProof.Rows.lex_irrefl _
theorem lexD_nc (y : PyData) (ys : List PyData) : lexD [] (y :: ys) = true := by
  unfold lexD
  rw [W.toks_all_cons]
  simp only [W.keyToksAll]
  rw [PyProof.Rows.lex_diff (O := PyProof.Rows.itemOrd) (by simp)]
  rfl
theorem lexD_cn (y : PyData) (ys : List PyData) : lexD (y :: ys) [] = false := by
  unfold lexD
  rw [W.toks_all_cons]
  simp only [W.keyToksAll]
  rw [PyProof.Rows.lex_diff (O := PyProof.Rows.itemOrd) (by simp)]
  rfl
theorem lexD_cc {t : Ty} {x y : PV} (hx : hasTy t x = true) (hy : hasTy t y = true) (e : W.dataLt (toD x) (toD y) = ltP x y) (xs ys : List PyData) : lexD (toD x :: xs) (toD y :: ys) = if eqP x y then lexD xs ys else ltP x y := by
  unfold lexD
  rw [W.dataLt_cons (hasTy_alike t x y hx hy), eqv_ty hx hy, e]
theorem lexD_all {t : Ty} (ih : ∀ x y, hasTy t x = true → hasTy t y = true → W.dataLt (toD x) (toD y) = ltP x y) : ∀ (xs ys : List PV), xs.all (hasTy t) = true → ys.all (hasTy t) = true → lexD (toDL xs) (toDL ys) = ltPL xs ys
  | [], [], _, _ => by simp only [toDL, ltPL]; exact lexD_nil
  | [], y :: ys, _, _ => by simp only [toDL, ltPL]; exact lexD_nc _ _
  | x :: xs, [], _, _ => by simp only [toDL, ltPL]; exact lexD_cn _ _
  | x :: xs, y :: ys, h, k => by
    rw [List.all_cons, Bool.and_eq_true] at h k
    simp only [toDL, ltPL]
    rw [lexD_cc h.1 k.1 (ih x y h.1 k.1), lexD_all ih xs ys h.2 k.2]
theorem lt_ty : ∀ (t : Ty) (u v : PV), hasTy t u = true → hasTy t v = true → W.dataLt (toD u) (toD v) = ltP u v
  | .int, u, v, h, k => by obtain ⟨i, rfl⟩ := hasTy_int h; obtain ⟨j, rfl⟩ := hasTy_int k; simp only [toD, ltP]; exact W.dataLt_int i j
  | .str, u, v, h, k => by obtain ⟨i, rfl, _⟩ := hasTy_str h; obtain ⟨j, rfl, _⟩ := hasTy_str k; simp only [toD, ltP]; exact W.dataLt_str i j
  | .seq t, u, v, h, k => by
    obtain ⟨xs, rfl, h⟩ := hasTy_seq h
    obtain ⟨ys, rfl, k⟩ := hasTy_seq k
    simp only [toD, ltP]
    rw [W.dataLt_tuple]; exact lexD_all (lt_ty t) xs ys h k
  | .lseq t, u, v, h, k => by
    obtain ⟨xs, rfl, h⟩ := hasTy_lseq h
    obtain ⟨ys, rfl, k⟩ := hasTy_lseq k
    simp only [toD, ltP]
    rw [W.dataLt_list]; exact lexD_all (lt_ty t) xs ys h k
  | .two a b, u, v, h, k => by
    obtain ⟨x, y, rfl, h1, h2⟩ := hasTy_two h
    obtain ⟨x', y', rfl, k1, k2⟩ := hasTy_two k
    simp only [toD, toDL, ltP, ltPL]
    rw [W.dataLt_tuple]
    show lexD _ _ = _
    rw [lexD_cc h1 k1 (lt_ty a x x' h1 k1), lexD_cc h2 k2 (lt_ty b y y' h2 k2), lexD_nil]
  | .three a b c, u, v, h, k => by
    obtain ⟨x, y, z, rfl, h1, h2, h3⟩ := hasTy_three h
    obtain ⟨x', y', z', rfl, k1, k2, k3⟩ := hasTy_three k
    simp only [toD, toDL, ltP, ltPL]
    rw [W.dataLt_tuple]
    show lexD _ _ = _
    rw [lexD_cc h1 k1 (lt_ty a x x' h1 k1), lexD_cc h2 k2 (lt_ty b y y' h2 k2), lexD_cc h3 k3 (lt_ty c z z' h3 k3), lexD_nil]
/-! ### the order is total -/
theorem eq_all {t : Ty} (ih : ∀ x y, hasTy t x = true → hasTy t y = true → eqP x y = true → x = y) : ∀ (xs ys : List PV), xs.all (hasTy t) = true → ys.all (hasTy t) = true → eqPL xs ys = true → xs = ys
  | [], [], _, _, _ => rfl
  | [], y :: ys, _, _, e => by simp [eqPL] at e
  | x :: xs, [], _, _, e => by simp [eqPL] at e
  | x :: xs, y :: ys, h, k, e => by
    rw [List.all_cons, Bool.and_eq_true] at h k
    simp only [eqPL, Bool.and_eq_true] at e
    rw [ih x y h.1 k.1 e.1, eq_all ih xs ys h.2 k.2 e.2]
theorem eq_ty : ∀ (t : Ty) (u v : PV), hasTy t u = true → hasTy t v = true → eqP u v = true → u = v
  | .int, u, v, h, k, e => by obtain ⟨i, rfl⟩ := hasTy_int h; obtain ⟨j, rfl⟩ := hasTy_int k; simpa [eqP] using e
  | .str, u, v, h, k, e => by obtain ⟨i, rfl, _⟩ := hasTy_str h; obtain ⟨j, rfl, _⟩ := hasTy_str k; simpa [eqP] using e
  | .seq t, u, v, h, k, e => by
    obtain ⟨xs, rfl, h⟩ := hasTy_seq h
    obtain ⟨ys, rfl, k⟩ := hasTy_seq k
    simp only [eqP] at e
    rw [eq_all (eq_ty t) xs ys h k e]
  | .lseq t, u, v, h, k, e => by
    obtain ⟨xs, rfl, h⟩ := hasTy_lseq h
    obtain ⟨ys, rfl, k⟩ := hasTy_lseq k
    simp only [eqP] at e
    rw [eq_all (eq_ty t) xs ys h k e]
  | .two a b, u, v, h, k, e => by
    obtain ⟨x, y, rfl, h1, h2⟩ := hasTy_two h
    obtain ⟨x', y', rfl, k1, k2⟩ := hasTy_two k
    simp only [eqP, eqPL, Bool.and_true, Bool.and_eq_true] at e
    rw [eq_ty a x x' h1 k1 e.1, eq_ty b y y' h2 k2 e.2]
  | .three a b c, u, v, h, k, e => by
    obtain ⟨x, y, z, rfl, h1, h2, h3⟩ := hasTy_three h
    obtain ⟨x', y', z', rfl, k1, k2, k3⟩ := hasTy_three k
    simp only [eqP, eqPL, Bool.and_true, Bool.and_eq_true] at e
    rw [eq_ty a x x' h1 k1 e.1, eq_ty b y y' h2 k2 e.2.1, eq_ty c z z' h3 k3 e.2.2]
theorem eqP_comm (x y : PV) (hx : isD x = true) (hy : isD y = true) : eqP x y = eqP y x := by
  rw [← eqv_toD x y hx hy, ← eqv_toD y x hy hx]; exact W.eqv_comm _ _
theorem tri_all {t : Ty} (ih : ∀ x y, hasTy t x = true → hasTy t y = true → ltP x y = false → ltP y x = false → eqP x y = true) : ∀ (xs ys : List PV), xs.all (hasTy t) = true → ys.all (hasTy t) = true → ltPL xs ys = false → ltPL ys xs = false → eqPL xs ys = true
  | [], [], _, _, _, _ => rfl
  | [], y :: ys, _, _, e, _ => by simp [ltPL] at e
  | x :: xs, [], _, _, _, e => by simp [ltPL] at e
  | x :: xs, y :: ys, h, k, e, f => by
    rw [List.all_cons, Bool.and_eq_true] at h k
    simp only [ltPL] at e f
    rw [eqP_comm y x (hasTy_isD t y k.1) (hasTy_isD t x h.1)] at f
    simp only [eqPL, Bool.and_eq_true]
    cases hq : eqP x y with
    | true =>
      rw [hq] at e f
      exact ⟨rfl, tri_all ih xs ys h.2 k.2 e f⟩
    | false =>
      rw [hq] at e f
      rw [ih x y h.1 k.1 e f] at hq; cases hq
theorem tri_cc {t : Ty} {x y : PV} {p q : Bool} (h : hasTy t x = true) (k : hasTy t y = true) (ih : ltP x y = false → ltP y x = false → eqP x y = true) (e : (if eqP x y then p else ltP x y) = false) (f : (if eqP y x then q else ltP y x) = false) : eqP x y = true ∧ p = false ∧ q = false := by
  rw [eqP_comm y x (hasTy_isD t y k) (hasTy_isD t x h)] at f
  cases hq : eqP x y with
  | true => rw [hq] at e f; exact ⟨rfl, e, f⟩
  | false => rw [hq] at e f; rw [ih e f] at hq; cases hq
theorem tri_ty : ∀ (t : Ty) (u v : PV), hasTy t u = true → hasTy t v = true → ltP u v = false → ltP v u = false → eqP u v = true
  | .int, u, v, h, k, e, f => by
    obtain ⟨i, rfl⟩ := hasTy_int h; obtain ⟨j, rfl⟩ := hasTy_int k
    simp only [ltP, decide_eq_false_iff_not] at e f
    simp only [eqP, beq_iff_eq]; omega
  | .str, u, v, h, k, e, f => by
    obtain ⟨i, rfl, _⟩ := hasTy_str h; obtain ⟨j, rfl, _⟩ := hasTy_str k
    simp only [ltP, decide_eq_false_iff_not, List.not_lt] at e f
    have := W.str_of_cps (List.le_antisymm f e)
    simp only [eqP, beq_iff_eq]; exact this
  | .seq t, u, v, h, k, e, f => by
    obtain ⟨xs, rfl, h⟩ := hasTy_seq h
    obtain ⟨ys, rfl, k⟩ := hasTy_seq k
    simp only [ltP] at e f
    simp only [eqP]
    exact tri_all (tri_ty t) xs ys h k e f
  | .lseq t, u, v, h, k, e, f => by
    obtain ⟨xs, rfl, h⟩ := hasTy_lseq h
    obtain ⟨ys, rfl, k⟩ := hasTy_lseq k
    simp only [ltP] at e f
    simp only [eqP]
    exact tri_all (tri_ty t) xs ys h k e f
  | .two a b, u, v, h, k, e, f => by
    obtain ⟨x, y, rfl, h1, h2⟩ := hasTy_two h
    obtain ⟨x', y', rfl, k1, k2⟩ := hasTy_two k
    simp only [ltP, ltPL] at e f
    obtain ⟨c1, e, f⟩ := tri_cc h1 k1 (tri_ty a x x' h1 k1) e f
    obtain ⟨c2, e, f⟩ := tri_cc h2 k2 (tri_ty b y y' h2 k2) e f
    simp only [eqP, eqPL, c1, c2, Bool.and_true]
  | .three a b c, u, v, h, k, e, f => by
    obtain ⟨x, y, z, rfl, h1, h2, h3⟩ := hasTy_three h
    obtain ⟨x', y', z', rfl, k1, k2, k3⟩ := hasTy_three k
    simp only [ltP, ltPL] at e f
    obtain ⟨c1, e, f⟩ := tri_cc h1 k1 (tri_ty a x x' h1 k1) e f
    obtain ⟨c2, e, f⟩ := tri_cc h2 k2 (tri_ty b y y' h2 k2) e f
    obtain ⟨c3, e, f⟩ := tri_cc h3 k3 (tri_ty c z z' h3 k3) e f
    simp only [eqP, eqPL, c1, c2, c3, Bool.and_true]
/-! ### sorting by insertion -/
def insP (lt : PV → PV → Bool) (x : PV) : List PV → List PV
  | [] => [x]
  | y :: r => if lt y x then y :: insP lt x r else x :: y :: r
def isort (lt : PV → PV → Bool) : List PV → List PV
  | [] => []
  | x :: r => insP lt x (isort lt r)
theorem insP_perm (lt : PV → PV → Bool) (x : PV) : ∀ xs, (insP lt x xs).Perm (x :: xs)
  | [] => .refl _
  | y :: r => by
    unfold insP
    split
    · exact ((insP_perm lt x r).cons y).trans (.swap x y r)
    · exact .refl _
theorem isort_perm (lt : PV → PV → Bool) : ∀ xs, (isort lt xs).Perm xs
  | [] => .refl _
  | x :: r => (insP_perm lt x _).trans ((isort_perm lt r).cons x)
theorem insP_congr {lt lt' : PV → PV → Bool} {x : PV} : ∀ {xs : List PV}, (∀ y ∈ xs, lt y x = lt' y x) → insP lt x xs = insP lt' x xs
  | [], _ => rfl
  | y :: r, h => by
    unfold insP
    rw [h y List.mem_cons_self, insP_congr fun z hz => h z (List.mem_cons_of_mem _ hz)]
theorem isort_congr {lt lt' : PV → PV → Bool} : ∀ {xs : List PV}, (∀ x ∈ xs, ∀ y ∈ xs, lt y x = lt' y x) → isort lt xs = isort lt' xs
  | [], _ => rfl
  | x :: r, h => by
    unfold isort
    rw [isort_congr fun a ha b hb => h a (List.mem_cons_of_mem _ ha) b (List.mem_cons_of_mem _ hb)]
    exact insP_congr fun y hy => h x List.mem_cons_self y (List.mem_cons_of_mem _ ((isort_perm lt' r).mem_iff.mp hy))
def leD (a b : PV) : Bool := !W.dataLt (toD b) (toD a)
theorem leD_eq : W.dataLe false toD = leD := rfl
theorem leD_total : W.TotalLe leD := W.sortLe_total (PyProof.Rows.listOrd PyProof.Rows.itemOrd) false fun b => W.keyToks (toD b)
theorem insP_sorted (x : PV) : ∀ (xs : List PV), xs.Pairwise (fun a b => leD a b = true) → (insP (fun a b => W.dataLt (toD a) (toD b)) x xs).Pairwise (fun a b => leD a b = true)
  | [], _ => by simp [insP]
  | y :: r, h => by
    rw [List.pairwise_cons] at h
    unfold insP
    cases hl : W.dataLt (toD y) (toD x) with
    | true =>
      rw [if_pos rfl, List.pairwise_cons]
      refine ⟨fun z hz => ?_, insP_sorted x r h.2⟩
      rcases List.mem_cons.mp ((insP_perm _ x r).mem_iff.mp hz) with rfl | hz
      · have t := leD_total.total y z
        have : leD z y = false := by unfold leD; rw [hl]; rfl
        rcases t with t | t
        · exact t
        · rw [this] at t; cases t
      · exact h.1 z hz
    | false =>
      rw [if_neg (by simp), List.pairwise_cons, List.pairwise_cons]
      have hxy : leD x y = true := by unfold leD; rw [hl]; rfl
      refine ⟨fun z hz => ?_, h.1, h.2⟩
      rcases List.mem_cons.mp (show _ ∈ _ :: _ from hz) with rfl | hz
      · exact hxy
      · exact leD_total.trans x y z hxy (h.1 z hz)
theorem isort_sorted : ∀ (xs : List PV), (isort (fun a b => W.dataLt (toD a) (toD b)) xs).Pairwise (fun a b => leD a b = true)
  | [] => by simp [isort]
  | x :: r => insP_sorted x _ (isort_sorted r)
theorem sort_ty {t : Ty} {xs : List PV} (h : xs.all (hasTy t) = true) : xs.mergeSort (W.dataLe false toD) = isort ltP xs := by
  rw [List.all_eq_true] at h
  rw [leD_eq, ← isort_congr (lt := fun a b => W.dataLt (toD a) (toD b)) fun x hx y hy => lt_ty t y x (h y hy) (h x hx)]
  refine List.Perm.eq_of_pairwise (le := fun a b => leD a b = true) (fun a b ha hb h1 h2 => ?_) (List.pairwise_mergeSort leD_total.trans (fun a b => by rw [Bool.or_eq_true]; exact leD_total.total a b) xs) (isort_sorted xs) ((List.mergeSort_perm xs _).trans (isort_perm _ xs).symm)
  have ma := h a ((List.mergeSort_perm xs _).mem_iff.mp ha)
  have mb := h b ((isort_perm _ xs).mem_iff.mp hb)
  unfold leD at h1 h2
  rw [Bool.not_eq_true', lt_ty t _ _ mb ma] at h1
  rw [Bool.not_eq_true', lt_ty t _ _ ma mb] at h2
  exact eq_ty t a b ma mb (tri_ty t a b ma mb h2 h1)

/-! ### sorted(..) -/
mutual
theorem reads_lt {h : Heap} : ∀ (b : PV) (v : Value) (as : List Addr), Reads h v (toD b) as → ∀ a ∈ as, a < h.objs.size
  | .tup xs, v, as, r, a, haZ => by
    simp only [toD] at r
    cases r with
    | tuple h1 h2 h3 h4 => exact readsL_lt xs _ _ h4 a haZ
  | .lst xs, v, as, r, a, haZ => by
    simp only [toD] at r
    cases r with
    | list h1 h2 h3 h4 =>
      rcases List.mem_cons.mp haZ with rfl | haZ
      · exact Heap.lt_size h1
      · exact readsL_lt xs _ _ h4 a haZ
  | .non, v, as, r, a, haZ => by simp only [toD] at r; cases r; cases haZ
  | .bl _, v, as, r, a, haZ => by simp only [toD] at r; cases r; cases haZ
  | .int _, v, as, r, a, haZ => by simp only [toD] at r; cases r; cases haZ
  | .str _, v, as, r, a, haZ => by simp only [toD] at r; cases r; cases haZ
  | .dic _ _ _, v, as, r, a, haZ => by simp only [toD] at r; cases r; cases haZ
  | .ins _ _, v, as, r, a, haZ => by simp only [toD] at r; cases r; cases haZ
  | .obj _, v, as, r, a, haZ => by simp only [toD] at r; cases r; cases haZ
  | .scr _, v, as, r, a, haZ => by simp only [toD] at r; cases r; cases haZ
theorem readsL_lt {h : Heap} : ∀ (bs : List PV) (vs : List Value) (as : List Addr), ReadsAll h vs (toDL bs) as → ∀ a ∈ as, a < h.objs.size
  | [], vs, as, r, a, haZ => by simp only [toDL] at r; cases r; cases haZ
  | b :: bs, vs, as, r, a, haZ => by
    simp only [toDL] at r
    cases r with
    | cons h1 h2 =>
      rcases List.mem_append.mp haZ with haZ | haZ
      · exact reads_lt b _ _ h1 a haZ
      · exact readsL_lt bs _ _ h2 a haZ
end
section
open PySem.W PyProof.Rows
variable {prog : Program} {w : World} {A : Around} {E : Value → Shared → Prop} {s : Shared} {bs : List PV} {R : Value → PV → Prop}
/-- sorted of what is gathered -/
theorem sorted_src {l : Addr} {Q : Value → Shared → Prop} {C : List Value → Prop} (hcol : ∀ (R' : List Value → Shared → Prop) (E' : Value → Shared → Prop), (∀ h' tk vs, C vs → (∀ b o, s.heap.get? b = some o → h'.get? b = some o) → R' vs { s with heap := h', toks := tk }) → wpAny (model prog w) A.in1 (collect (.ref l)) R' E' s)
    (hC : ∀ vs, C vs → EachIs R vs bs ∧ EachIs (fun v b => ∃ as, Reads s.heap v (toD b) as) vs bs)
    (hL : bs.length ≤ sizeLine) (hal : AllAlike (bs.map toD)) (hk : 2 ≤ bs.length → Sortable (bs.map toD)) (hu : ∀ b, b ∈ bs → A.units + 64 + (toD b).depth < cLine + 60)
    (h : ∀ (h' h'' : Heap) (tk : Nat) (out : List Value), EachIs R out (bs.mergeSort (dataLe false toD)) → (∀ b o, s.heap.get? b = some o → h'.get? b = some o) → (∀ b o, h'.get? b = some o → h''.get? b = some o) → (∃ n, h''.get? h'.objs.size = some (seqObj "list" out.toArray n)) → Q (.ref h'.objs.size) { s with heap := h'', toks := tk }) : wpAny (model prog w) A (call (.builtin "sorted") [.ref l]) Q E s := by
  apply Calls.call_function_entry kind_sorted plain_sorted entry_sorted (args_sorted1 _)
  unfold Builtin.«sorted»
  refine wpAny_bind (m := checkCount "sorted" 1 1 _) (wpAny_pure ?_); refine wpAny_bind (hcol _ _ fun h' tk vs c hk' => ?_)
  obtain ⟨e, er⟩ := hC vs c
  have hlen : vs.length = bs.length := e.length
  refine wpAny_bind (wpAny_newList ?_ (by rw [hlen]; exact hL))
  have hoL : (h'.push (seqObj "list" vs.toArray 0)).get? h'.objs.size = some (seqObj "list" vs.toArray 0) := Heap.get?_push_size _ rfl
  have old : ∀ (out : List Value) b o, h'.get? b = some o → (sortedHeap (h'.push (seqObj "list" vs.toArray 0)) h'.objs.size vs out.toArray).get? b = some o := fun out b o q => by
    have hb : b < h'.objs.size := Heap.lt_size q
    rw [sortedHeap_old (Nat.ne_of_lt hb) (by rw [size_push']; exact Nat.lt_succ_of_lt hb)]
    exact (Heap.get?_push_of_some _ q)
  have fin : ∀ out, EachIs R out (bs.mergeSort (dataLe false toD)) → Q (.ref h'.objs.size) { s with heap := sortedHeap (h'.push (seqObj "list" vs.toArray 0)) h'.objs.size vs (List.toArray out), toks := tk } := fun out eo =>
    h h' _ tk out eo hk' (old out) (sortedHeap_at hoL)
  by_cases h2 : 2 ≤ bs.length
  · refine wpAny_bind (wpAny_holding (list_sort_data (s := { s with heap := h'.push (seqObj "list" vs.toArray 0), toks := tk }) hoL e ?_ hal (hk h2) hL (fun b hb => ?_) fun out ho eo => wpAny_pure ⟨_, rfl, fin out eo⟩))
    · refine (each_mem er).mono fun v b ⟨⟨as, r⟩, _⟩ => ?_
      have r1 : Reads h' v (toD b) as := PyProof.Rows.Reads.keeps hk' r
      exact ⟨as, PyProof.Rows.Reads.keeps (fun b o q => Heap.get?_push_of_some _ q) r1, fun z => Nat.lt_irrefl _ (reads_lt b v as r1 _ z)⟩
    · have := hu b hb
      show A.units + 1 + 1 + _ < cLine
      omega
  · refine wpAny_bind (wpAny_holding (wpAny_call_entry slot_list_sort ⟨_, hoL, rfl⟩ entry_list_sort (SrtO.list_sort_ord (ltv := fun _ _ => false) (s := { s with heap := h'.push (seqObj "list" vs.toArray 0), toks := tk }) ⟨fun _ _ h => absurd h (by simp), fun _ _ _ _ _ => rfl⟩ hoL (by rw [hlen]; exact hL) (fun z => absurd z (by omega)) fun out _ hb => ⟨_, rfl, ?_⟩) (args_list_sort _)))
    refine wpAny_pure ⟨_, rfl, fin out ?_⟩
    have hp := hb.perm
    have e1 : out = vs := by
      match vs, hlen, hp with
      | [], _, hp => exact hp.eq_nil
      | [v], _, hp => exact List.perm_singleton.mp hp
      | _ :: _ :: _, hl, _ => simp at hl; omega
    have e2 : bs.mergeSort (dataLe false toD) = bs := by
      match bs, h2 with
      | [], _ => simp
      | [v], _ => simp
      | _ :: _ :: _, h2 => simp at h2
    rw [e1, e2]
    exact e
end

def srtOk (t : Ty) (xs : List PV) : Bool := decide (xs.length ≤ 1000000) && (xs.all (hasTy t) && (decide (tyD t ≤ 50) && (decide (xs.length < 2) || (xs.all fun x => match x with
  | .tup [] => false
  | .tup (_ :: _) => true
  | _ => false) || xs.all fun x => match x with
  | .tup _ => false
  | _ => true)))
section
variable {K : PySem.W.Frag} {ct : Ct} {H : Hp} {A M : List Addr}
theorem srtOk.parts {t : Ty} {xs : List PV} (h : srtOk t xs = true) : xs.length ≤ 1000000 ∧ xs.all (hasTy t) = true ∧ tyD t ≤ 50 ∧ W.AllAlike (xs.map toD) ∧ (2 ≤ xs.length → W.Sortable (xs.map toD)) := by
  unfold srtOk at h
  simp only [decide_eq_true_eq, Bool.and_eq_true] at h
  obtain ⟨h1, h2, h3, h4⟩ := h
  have h2' := List.all_eq_true.mp h2
  refine ⟨h1, h2, h3, fun d hd d' hd' => ?_, fun hl => ?_⟩
  · obtain ⟨bZ, hb, rfl⟩ := List.mem_map.mp hd
    obtain ⟨b', hb', rfl⟩ := List.mem_map.mp hd'
    exact hasTy_alike t bZ b' (h2' bZ hb) (h2' b' hb')
  · simp only [Bool.or_eq_true, decide_eq_true_eq] at h4
    rcases h4 with (h4 | h4) | h4
    · omega
    · rw [List.all_eq_true] at h4
      refine .inl fun d hd => ?_
      obtain ⟨bZ, hb, rfl⟩ := List.mem_map.mp hd
      have := h4 bZ hb
      match bZ, this with
      | .tup (x :: r), _ => exact ⟨toD x, toDL r, by simp only [toD, toDL]⟩
    · rw [List.all_eq_true] at h4
      refine .inr fun d hd => ?_
      obtain ⟨bZ, hb, rfl⟩ := List.mem_map.mp hd
      have hn := h4 bZ hb
      have ht := h2' bZ hb
      constructor
      · intro z
        cases t with
        | int => obtain ⟨i, rfl⟩ := hasTy_int ht; simp [toD] at z
        | str => obtain ⟨i, rfl, _⟩ := hasTy_str ht; simp [toD] at z
        | seq t => obtain ⟨i, rfl, _⟩ := hasTy_seq ht; simp [toD] at z
        | lseq t => obtain ⟨i, rfl, _⟩ := hasTy_lseq ht; simp [toD] at z
        | two _ _ => obtain ⟨i, j, rfl, _⟩ := hasTy_two ht; simp [toD] at z
        | three _ _ _ => obtain ⟨i, j, k, rfl, _⟩ := hasTy_three ht; simp [toD] at z
      · intro ys z
        cases bZ with
        | tup xs => simp at hn
        | _ => simp [toD] at z
theorem each_rep {X : Cx} {pins : List (Addr × Obj)} {σ : St} {s : Shared} (I : Inv X pins σ H s) : ∀ {ps : List PV} {xs : List V} {vs : List Value}, isDL ps = true → RepL X.K ct H A M ps xs → Vals xs vs →
    W.EachIs (fun v b => ∃ x, RelV x v ∧ Rep X.K ct H A M b x) vs ps ∧ W.EachIs (fun v b => ∃ as, Reads s.heap v (toD b) as) vs ps
  | [], xs, vs, _, r, rv => by
    rw [RepL.nil_iff.mp r] at rv
    cases rv
    exact ⟨.nil, .nil⟩
  | p :: ps, xs, vs, hd, r, rv => by
    obtain ⟨x, ys, rfl, r1, r2⟩ := r.inv
    simp only [isDL, Bool.and_eq_true] at hd
    cases rv with
    | cons v1 v2 =>
      obtain ⟨k1, k2⟩ := each_rep I hd.2 r2 v2
      exact ⟨.cons ⟨x, v1, r1⟩ k1, .cons (Dp.reads I _ x _ (r1.dp p x hd.1) v1) k2⟩
theorem rep_each {K : PySem.W.Frag} : ∀ {ps : List PV} {vs : List Value}, W.EachIs (fun v b => ∃ x, RelV x v ∧ Rep K ct H A M b x) vs ps → ∃ xs, Vals xs vs ∧ RepL K ct H A M ps xs
  | _, _, .nil => ⟨[], .nil, .nil⟩
  | _, _, .cons h t => by
    obtain ⟨x, r1, r2⟩ := h
    obtain ⟨xs, k1, k2⟩ := rep_each t
    exact ⟨x :: xs, .cons r1 k1, .cons r2 k2⟩
end
/-- where the items of a stand: a list, a tuple, a dict's keys -/
def Items (K : PySem.W.Frag) (ct : Ct) (H : Hp) (A M : List Addr) (a : Addr) (bs : List PV) : Prop := (∃ xs, (SqL K H a xs ∨ SqT K H a xs) ∧ RepL K ct H A M bs xs) ∨ (∃ kvs : List (Key × V), Rd H a (.dK kvs) ∧ bs = kvs.map fun w => keyV w.1) ∨
  ∃ kvs : List (List Key × V), Rd H a (.dT kvs) ∧ bs = kvs.map fun w => .tup (w.1.map keyV)
def rSrt (K : PySem.W.Frag) (ct : Ct) : List V → Hp → VK → Prop := fun vs H Q => ∃ (a : Addr) (A M : List Addr) (bs : List PV) (t : Ty), vs = [.ref a] ∧ Hx A M H ∧ Items K ct H A M a bs ∧ srtOk t bs = true ∧
  ∀ p zs, H p = none → RepL K ct H A M (isort ltP bs) zs → Q (.ref p) (upd H p (.lst zs))
theorem RepL.keysT {K : PySem.W.Frag} {ct : Ct} {H : Hp} {A M : List Addr} (hx : Hx A M H) : ∀ {kvs : List (List Key × V)} {bs : List Addr}, IsKeys H kvs bs → RepL K ct H A M (kvs.map fun w => .tup (w.1.map keyV)) (bs.map V.ref) := fun {kvs bs} h => by
  unfold IsKeys at h
  induction h with
  | nil => exact .nil
  | @cons p b ps bs h t ih =>
    refine .cons ?_ ih
    simp only [Rep]
    exact ⟨b, _, rfl, ⟨h, fun z => hx.noA b z _ h, fun z => hx.noM b z _ h⟩, RepL.of_keys p.1⟩
theorem RepL.keysK {K : PySem.W.Frag} {ct : Ct} {H : Hp} {A M : List Addr} : ∀ (kvs : List (Key × V)), RepL K ct H A M (kvs.map fun w => keyV w.1) (kvs.map fun w => kV w.1)
  | [] => .nil
  | ⟨.inl i, v⟩ :: r => .cons (Rep.int_iff.mpr rfl) (RepL.keysK r)
  | ⟨.inr i, v⟩ :: r => .cons (Rep.str_iff.mpr rfl) (RepL.keysK r)
section
open PyProof.Rows
variable {X : Cx} {pins : List (Addr × Obj)} {s : Shared} {H : Hp} {σ : L2.St}
/-- how a's items are gathered -/
theorem collect_items {ct : Ct} {A M : List Addr} {a : Addr} {bs : List PV} (hcalm : X.calm = true) (I : Inv X pins σ H s) (hx : Hx A M H) (hi : Items X.K ct H A M a bs) :
    ∃ (xs : List V), RepL X.K ct H A M bs xs ∧ ∀ (R' : List Value → Shared → Prop) (E' : Value → Shared → Prop), (∀ h' tk vs, Vals xs vs → (∀ b o, s.heap.get? b = some o → h'.get? b = some o) → R' vs { s with heap := h', toks := tk }) → wpAny (model X.prog X.w) X.A.in1 (collect (.ref a)) R' E' s := by
  rcases hi with ⟨xs, hq | hq, r⟩ | ⟨kvs, hd, rfl⟩ | ⟨kvs, hd, rfl⟩
  · obtain ⟨its, rv, pl, hz⟩ := I.list hq
    refine ⟨xs, r, fun R' E' h => collect_list pl.isList (h _ s.toks its rv fun b o e => ?_) (by rw [← rv.length]; exact hz)⟩
    rw [Heap.get?_update_ne _ _ _ _ (Nat.ne_of_lt (Heap.lt_size e))]
    exact (Heap.get?_push_of_some _ e)
  · obtain ⟨its, rv, ⟨o, ho, hc, n, hdt⟩, hz⟩ := I.tuple hq
    refine ⟨xs, r, fun R' E' h => wpAny_collect_seq a (.inr rfl) ho hc hdt (fun h' kZ => ?_) (by rw [List.size_toArray, ← rv.length]; exact hz)⟩
    exact h h' s.toks _ (by simpa using rv) kZ
  · obtain ⟨z, lo, vs, rel, dd⟩ := dk_rd I.hok hd
    obtain ⟨ep, hat⟩ := dd.dictAt
    refine ⟨kvs.map fun w => kV w.1, RepL.keysK kvs, fun R' E' h => PySem.W.kdu_collect (A := X.A.in1) (PySem.W.kdl_dict (knd := mixKind X.prog X.w) (kvs := vs) (ep := ep) lo) (I.ok.hd hcalm) hat (by rw [← rel.length]; exact z) fun h' tk acc hk hacc => h h' tk _ ?_ hk⟩
    have hal : acc.toList.length = vs.length := by rw [Array.length_toList, hacc.1]
    have hv : Vals (vs.map fun p => kV p.1) acc.toList := keys_at hal fun j v e => by
      obtain ⟨kZ, x, e1, e2⟩ := hacc.2 j v (by rw [← Array.getElem?_toList]; exact e)
      exact ⟨kZ, x, e1, e2⟩
    have ek : (kvs.map fun w => kV w.1) = vs.map fun p => kV p.1 := by
      have := congrArg (List.map kV) rel.keys
      rw [List.map_map, List.map_map] at this
      exact this
    rw [ek]
    exact hv
  · obtain ⟨z, hs, ks, pr, o, es, ep, ho, hx', hdt, he, hn⟩ := (show ObjOk X.prog X.w H s.heap a (.dT kvs) from hd.ok I.hok)
    have l1Z : es.size = ks.length := size_of_entries he
    have l2Z : kvs.length = ks.length := Paired.length pr
    refine ⟨(ks.map fun x => x.2.1).map V.ref, RepL.keysT hx (isKeys_of pr), fun R' E' h => PySem.W.kdu_collect (A := X.A.in1) (kdl_raw hs hx' hdt) (I.ok.hd hcalm) ho (by omega) fun h' tk acc' kp it => h h' tk _ ?_ kp⟩
    have eaZ : acc'.toList = ks.map fun x => Value.ref x.2.1 := by
      have hl : acc'.toList.length = ks.length := by rw [Array.length_toList, it.1]; exact l1Z
      apply List.ext_getElem?
      intro j
      rw [List.getElem?_map]
      cases hjZ : acc'.toList[j]? with
      | none =>
        have h1 := List.getElem?_eq_none_iff.mp hjZ
        rw [List.getElem?_eq_none (show _ ≤ _ by omega)]
        all_goals rfl
      | some v =>
        obtain ⟨enZ, hen, hv⟩ := it.2 j v (by rw [← Array.getElem?_toList]; exact hjZ)
        have qe := entry_at he j
        rw [hen] at qe
        cases hb : ks[j]? with
        | none =>
          rw [hb] at qe
          exact nomatch (show some enZ = none from qe)
        | some b =>
          rw [hb] at qe
          have e2 : enZ = entryOfKey (tupleKind (mixKind X.prog X.w)) b := Option.some.inj qe
          rw [hv, e2]
          all_goals rfl
    have eb : acc'.toList = (ks.map fun x => x.2.1).map Value.ref := by rw [eaZ, List.map_map]; all_goals rfl
    rw [eb]; exact vals_refs _
theorem cr_srt {ct : Ct} (hcalm : X.calm = true) (hu : X.A.units + 64 < cLine) : CallR X (.builtin "sorted") (rSrt X.K ct) := by
  intro pinsZ s σ H vs us Q I r h
  obtain ⟨a, A, M, bs, t, rfl, hx, hi, hok, q⟩ := h
  rw [Vals.ref1 r]
  obtain ⟨xs, rx, hcol⟩ := collect_items hcalm I hx hi
  obtain ⟨o1, o2, o3, o4, o5⟩ := srtOk.parts hok
  have hD := all_isDL (hasTy_isD t) bs o2
  refine sorted_src (C := fun vs => Vals xs vs) hcol (fun vs c => each_rep I hD rx c) (sz_mil o1) o4 o5 (fun b hb => ?_) fun h' h'' tk out eo k1 k2 ⟨n, k3⟩ => ?_
  · rw [depth_toD]
    have := hasTy_dp t b (List.all_eq_true.mp o2 b hb)
    omega
  · obtain ⟨zs, v1, v2⟩ := rep_each eo
    rw [sort_ty o2] at v2
    have I1 : L2.Inv X pinsZ σ H { s with heap := h', toks := tk } := I.kept k1
    have hl : zs.length ≤ sizeLine := by rw [v2.length, (isort_perm ltP bs).length_eq]; exact sz_mil o1
    exact ⟨.ref h'.objs.size, upd H h'.objs.size (.lst zs), I1.laid (t' := tk) k2 (Nat.le_refl _) ⟨hl, out, n, v1, k3⟩, rfl, q _ zs (I1.hok.fresh (Nat.le_refl _)) v2⟩
end
/-! ### the expression -/
def keyP : PV → Option (List PV)
  | .lst xs => some xs
  | .tup xs => some xs
  | .scr ns => some (ns.map PV.int)
  | .dic _ ks _ => some ks
  | _ => none
def pSrt (t : Ty) (v : PV) : Option PV := (keyP v).bind fun xs => if srtOk t xs then some (.lst (isort ltP xs)) else none
theorem items_of {K : PySem.W.Frag} {ct : Ct} {H : Hp} {A M : List Addr} {v : PV} {x : V} {bs : List PV} (r : RepB K ct H A M v x) (e : keyP v = some bs) : ∃ a, x = .ref a ∧ Items K ct H A M a bs := by
  cases v with
  | lst xs =>
    cases e
    obtain ⟨ad, vs, rfl, k1, k2⟩ := r.lst
    exact ⟨ad, rfl, .inl ⟨vs, .inl (.inl (.inl k1)), k2⟩⟩
  | tup xs =>
    cases e
    obtain ⟨ad, vs, rfl, k1, k2⟩ := r.tup
    exact ⟨ad, rfl, .inl ⟨vs, .inr k1.sqT, k2⟩⟩
  | scr ns =>
    cases e
    rcases r with r | ⟨_, _, _, c⟩
    · obtain ⟨ad, rfl, k1, _⟩ := r.scr_inv
      exact ⟨ad, rfl, .inl ⟨_, .inl k1, RepL.of_ints ns⟩⟩
    · exact False.elim c
  | dic t ks vs =>
    cases e
    rcases r with r | ⟨p, rfl, _, c⟩
    · simp only [Rep] at r
      obtain ⟨a, rfl, r⟩ := r
      rcases r with ⟨ht, ws, h1, rfl, h3⟩ | ⟨ht, ws, h1, rfl, h3⟩
      · exact ⟨a, rfl, .inr (.inl ⟨ws, h1.rd, rfl⟩)⟩
      · exact ⟨a, rfl, .inr (.inr ⟨ws, h1.rd, rfl⟩)⟩
    · rcases c with ⟨ht, ws, h1, rfl, h3⟩ | ⟨ht, ws, h1, rfl, h3⟩
      · exact ⟨p, rfl, .inr (.inl ⟨ws, .inl h1, rfl⟩)⟩
      · exact ⟨p, rfl, .inr (.inr ⟨ws, .inl h1, rfl⟩)⟩
  | _ => cases e
section
variable {ct : Ct} {X : Cx} {a : Expr} {fa : FE} {pos p : Pos}
theorem jf_sorted (t : Ty) {k : Nat} (hr : Room k X.A) (hm : X.mg "sorted" = none) (ha : JB ct X a fa) (hc : X.calm = true := by rfl) (hg : Gl X "sorted" := by rfl) (he : starEach [a] X.env = (false, eval a X.env) :: starEach [] X.env := by rfl) : JF ct X (.Call (.Name "sorted" p) [a] [] pos) (eUn (pSrt t) fa) := by
  refine ⟨(pe_callB (cr_srt (ct := ct) hc hr.units) hg hm (by decide +kernel) (pa_cons ha.pe pa_nil he) (by decide) (by decide) he rfl).imp fun σ H Q h => ?_⟩
  obtain ⟨G, env, S, v, S', g, h1, q⟩ := h
  obtain ⟨⟨x, S1⟩, e1, h1⟩ := Res.bind_ok h1
  obtain ⟨z, e3, h1⟩ := Res.bind_ok h1
  cases h1
  refine ⟨G, env, S, x, _, g, e1, fun x' H1 A1 p1 s1 r1 => ?_⟩
  obtain ⟨bs, e4, e5⟩ := Option.bind_eq_some_iff.mp (ofO_ok e3)
  split at e5
  · rename_i hok
    cases e5
    obtain ⟨ad, rfl, hi⟩ := items_of r1 e4
    refine ⟨ad, A1, G.M, bs, t, rfl, (g.post p1 s1).hx, hi, hok, fun p zs np rz => ?_⟩
    obtain ⟨k1, k2, k3, k4, k5⟩ := fresh_lst g p1 s1 rz np
    exact q p _ A1 k1 k2 k3 k4 k5
  · cases e5
end
end J
set_option Elab.async false
set_option linter.all false
set_option maxRecDepth 100000
/-! J: repr(a) == repr(b), repr(a) != repr(b) where a and b are the same data. -/
namespace J
open PySem L2

mutual
def shOk : PV → Bool
  | .int i => decide (i.natAbs < 10 ^ 11)
  | .non => true
  | .bl _ => true
  | .str x => isD (.str x)
  | .tup xs => shOkL xs
  | .lst xs => shOkL xs
  | _ => false
def shOkL : List PV → Bool
  | [] => true
  | x :: r => shOk x && shOkL r
end
mutual
def wtP : PV → Nat
  | .int _ => 38
  | .str x => x.length
  | .tup xs => wtPL xs
  | .lst xs => wtPL xs
  | _ => 0
def wtPL : List PV → Nat
  | [] => 0
  | x :: r => wtP x + 1 + wtPL r
end
theorem log_lt {n k : Nat} (hk : 0 < k) (h : n < 2 ^ k) : n.log2 < k := by
  by_cases h0Z : n = 0
  · subst h0Z
    have : Nat.log2 0 = 0 := by decide
    omega
  · exact (Nat.log2_lt h0Z).mpr h
mutual
theorem shOk.isD : ∀ (v : PV), shOk v = true → isD v = true
  | .int i, _ => rfl
  | .non, _ => rfl
  | .bl _, _ => rfl
  | .str x, h => h
  | .tup xs, h => by simp only [J.isD]; exact shOkL.isDL xs (by simpa only [shOk] using h)
  | .lst xs, h => by simp only [J.isD]; exact shOkL.isDL xs (by simpa only [shOk] using h)
  | .dic _ _ _, h => by cases h
  | .ins _ _, h => by cases h
  | .obj _, h => by cases h
  | .scr _, h => by cases h
theorem shOkL.isDL : ∀ (xs : List PV), shOkL xs = true → isDL xs = true
  | [], _ => rfl
  | x :: r, h => by
    simp only [shOkL, Bool.and_eq_true] at h
    simp only [J.isDL, Bool.and_eq_true]
    exact ⟨shOk.isD x h.1, shOkL.isDL r h.2⟩
end
mutual
theorem shOk.parts : ∀ (v : PV), shOk v = true → (toD v).weight ≤ wtP v ∧ (toD v).intsShort 13 = true ∧ (toD v).showable = true ∧ (toD v).hasDict = false
  | .int i, h => by
    simp only [shOk, decide_eq_true_eq] at h
    have h2 : i.natAbs < 2 ^ 37 := Nat.lt_of_lt_of_le h (by decide)
    have h3 := log_lt (by decide) h2
    simp only [toD, wtP, PyData.weight, PyData.intsShort, PyData.showable, PyData.hasDict, decide_eq_true_eq]
    refine ⟨?_, ?_, by omega, trivial⟩
    · split <;> omega
    · show (Str.ofString (toString i)).length ≤ 13
      rw [ofString_length]
      have := int_text_length_le10 (by decide) h
      omega
  | .non, _ => ⟨Nat.le_refl _, rfl, rfl, rfl⟩
  | .bl _, _ => ⟨Nat.le_refl _, rfl, rfl, rfl⟩
  | .str x, _ => ⟨Nat.le_refl _, rfl, rfl, rfl⟩
  | .tup xs, h => by
    simp only [toD, wtP, PyData.weight, PyData.intsShort, PyData.showable, PyData.hasDict]
    exact shOkL.parts xs (by simpa only [shOk] using h)
  | .lst xs, h => by
    simp only [toD, wtP, PyData.weight, PyData.intsShort, PyData.showable, PyData.hasDict]
    exact shOkL.parts xs (by simpa only [shOk] using h)
  | .dic _ _ _, h => by cases h
  | .ins _ _, h => by cases h
  | .obj _, h => by cases h
  | .scr _, h => by cases h
theorem shOkL.parts : ∀ (xs : List PV), shOkL xs = true → PyData.weightAll (toDL xs) ≤ wtPL xs ∧ PyData.intsShortAll 13 (toDL xs) = true ∧ PyData.showableAll (toDL xs) = true ∧ PyData.hasDictAll (toDL xs) = false
  | [], _ => ⟨Nat.le_refl _, rfl, rfl, rfl⟩
  | x :: r, h => by
    simp only [shOkL, Bool.and_eq_true] at h
    obtain ⟨a1, a2, a3, a4⟩ := shOk.parts x h.1
    obtain ⟨b1, b2, b3, b4⟩ := shOkL.parts r h.2
    simp only [toDL, wtPL, PyData.weightAll, PyData.intsShortAll, PyData.showableAll, PyData.hasDictAll, a2, a3, a4, b2, b3, b4]
    exact ⟨by omega, rfl, rfl, rfl⟩
end
def rpOk (v : PV) : Bool := shOk v && (decide (wtP v ≤ 1000000) && decide (dpP v ≤ 60))
def rRpr (K : PySem.W.Frag) : List V → Hp → VK → Prop := fun xs H Q => ∃ (a : Addr) (v : PV), xs = [.ref a] ∧ Dp K H (.ref a) (toD v) ∧ rpOk v = true ∧ Q (.str (toD v).shown) H
theorem rpOk.parts {v : PV} (h : rpOk v = true) : isD v = true ∧ (toD v).shown.length ≤ sizeLine ∧ (toD v).showable = true ∧ (toD v).hasDict = false ∧ dpP v ≤ 60 := by
  unfold rpOk at h
  simp only [decide_eq_true_eq, Bool.and_eq_true] at h
  obtain ⟨a1, a2, a3, a4⟩ := shOk.parts v h.1
  have hd := shOk.isD v h.1
  refine ⟨hd, ?_, a3, a4, h.2.2⟩
  have hl : PyData.layable0 (toD v) = true := by
    show (PyData.canLay0 (toD v) && decide (PyData.depth (toD v) ≤ 64) && decide (PyData.weight (toD v) ≤ 2 ^ 20)) = true
    simp only [decide_eq_true_eq, Bool.and_eq_true]
    exact ⟨⟨lay_toD v hd, by rw [depth_toD]; omega⟩, by omega⟩
  exact Nat.le_trans (PyProof.Rows.shown_le13 hl a2) (by decide)
theorem cr_rpr {X : Cx} (hG : X.A.guards = some []) (hu : X.A.units + 64 < cLine) : CallR X (.builtin "repr") (rRpr X.K) := by
  intro pinsZ s σ H xs us Q I r h
  obtain ⟨a, v, rfl, hd, hok, q⟩ := h
  rw [Vals.ref1 r]
  obtain ⟨k1, k2, k3, k4, k5⟩ := rpOk.parts hok
  obtain ⟨as, rd⟩ := Dp.reads I _ _ (.ref a) hd rfl
  refine repr_of_reads' rd k3 (by rw [k4]; intro z; cases z) hG (by rw [depth_toD]; omega) (fun _ _ e => e) (fun h' u tk hk => ?_) k2
  exact ⟨.str _, H, I.kept hk, ⟨u, rfl⟩, q⟩
def isRef : PV → Bool
  | .tup _ => true
  | .lst _ => true
  | _ => false
/-- repr(a) == repr(b), told only where a and b are the same -/
def pRpr (k : Bool) (a b : PV) : Option PV := if isRef a && (rpOk a && decide (a = b)) then some (.bl k) else none
section
variable {ct : Ct} {X : Cx} {a b : Expr} {fa fb : FE} {pos p1 p2 q1 q2 : Pos}
theorem RepB.ref {K : PySem.W.Frag} {H : Hp} {A M : List Addr} {v : PV} {x : V} (hv : isRef v = true) (r : RepB K ct H A M v x) : ∃ a, x = .ref a := by
  cases v with
  | tup xs => obtain ⟨ad, vs, rfl, _⟩ := r.tup; exact ⟨ad, rfl⟩
  | lst xs => obtain ⟨ad, vs, rfl, _⟩ := r.lst; exact ⟨ad, rfl⟩
  | _ => cases hv
theorem rd_rpr {K : PySem.W.Frag} {k : Bool} {R : R2} (hR : ∀ z H Q, Q (.bl k) H → R (.str z) (.str z) H Q) {σ : St} {H : Hp} {Q : VK} (h : rd K ct (eOp (pRpr k) fa fb) σ H Q) :
    tOp R (tCB (rRpr K) (tCons (rdB K ct fa) tNil)) (tCB (rRpr K) (tCons (rdB K ct fb) tNil)) σ H Q := by
  obtain ⟨G, env, S, v, S', g, h1, q⟩ := h
  obtain ⟨⟨x, S1⟩, e1, h1⟩ := Res.bind_ok h1
  obtain ⟨⟨y, S2⟩, e2, h1⟩ := Res.bind_ok h1
  obtain ⟨z, e3, h1⟩ := Res.bind_ok h1
  cases h1
  have e4 := ofO_ok e3
  unfold pRpr at e4
  split at e4
  · rename_i hz
    cases e4
    simp only [decide_eq_true_eq, Bool.and_eq_true] at hz
    obtain ⟨hz1, hz2, hz3⟩ := hz
    subst hz3
    obtain ⟨k1, k2, k3, k4, k5⟩ := rpOk.parts hz2
    refine ⟨G, env, S, x, S1, g, e1, fun x' H1 A1 p1 s1 r1 => ?_⟩
    obtain ⟨ad, rfl⟩ := r1.ref hz1
    refine ⟨ad, x, rfl, r1.dp k1, hz2, ⟨{ G with A := A1 }, env, S1, x, _, g.post p1 s1, e2, fun y' H2 A2 p2 s2 r2 => ?_⟩⟩
    obtain ⟨ad2, rfl⟩ := r2.ref hz1
    exact ⟨ad2, x, rfl, r2.dp k1, hz2, hR _ _ _ (q _ H2 A2 (p1.trans p2) s2 (Rep.bl_iff.mpr rfl))⟩
  · cases e4
theorem pe_rpr (hG : X.A.guards = some []) {k : Nat} (hr : Room k X.A) (hm : X.mg "repr" = none) (ha : JB ct X a fa) (hg : Gl X "repr" := by rfl) (he : starEach [a] X.env = (false, eval a X.env) :: starEach [] X.env := by rfl) : PE X (.Call (.Name "repr" p1) [a] [] p2) (tCB (rRpr X.K) (tCons (rdB X.K ct fa) tNil)) :=
  pe_callB (cr_rpr hG hr.units) hg hm (by decide +kernel) (pa_cons ha.pe pa_nil he) (by decide) (by decide) he rfl
theorem jt_rprNe (hG : X.A.guards = some []) {k : Nat} (hr : Room k X.A) (hm : X.mg "repr" = none) (ha : JB ct X a fa) (hb : JB ct X b fb) (hg : Gl X "repr" := by rfl) (he : starEach [a] X.env = (false, eval a X.env) :: starEach [] X.env := by rfl) (he2 : starEach [b] X.env = (false, eval b X.env) :: starEach [] X.env := by rfl) :
    JT ct X (.Compare (.Call (.Name "repr" p1) [a] [] p2) [.NotEq] [.Call (.Name "repr" q1) [b] [] q2] pos) (tV (eOp (pRpr false) fa fb)) :=
  ⟨(pt_cmpR op_ne (pe_rpr hG hr hm ha hg he) (pe_rpr hG hr hm hb hg he2) (by first | exact nomark _ | rfl)).imp fun _ _ _ h => rdT_tTest (fun _ _ _ z => rd_rpr (fun z H Q q => ⟨rfl, by simpa using q⟩) z) h⟩
theorem je_rprNe (hG : X.A.guards = some []) {k : Nat} (hr : Room k X.A) (hm : X.mg "repr" = none) (ha : JB ct X a fa) (hb : JB ct X b fb) (hg : Gl X "repr" := by rfl) (he : starEach [a] X.env = (false, eval a X.env) :: starEach [] X.env := by rfl) (he2 : starEach [b] X.env = (false, eval b X.env) :: starEach [] X.env := by rfl) :
    JE ct X (.Compare (.Call (.Name "repr" p1) [a] [] p2) [.NotEq] [.Call (.Name "repr" q1) [b] [] q2] pos) (eOp (pRpr false) fa fb) :=
  ⟨(pe_cmpR op_ne (pe_rpr hG hr hm ha hg he) (pe_rpr hG hr hm hb hg he2) (by first | exact nomark _ | rfl)).imp fun _ _ _ z => rd_rpr (fun z H Q q => ⟨rfl, by simpa using q⟩) z⟩
theorem jt_rprEq (hG : X.A.guards = some []) {k : Nat} (hr : Room k X.A) (hm : X.mg "repr" = none) (ha : JB ct X a fa) (hb : JB ct X b fb) (hg : Gl X "repr" := by rfl) (he : starEach [a] X.env = (false, eval a X.env) :: starEach [] X.env := by rfl) (he2 : starEach [b] X.env = (false, eval b X.env) :: starEach [] X.env := by rfl) :
    JT ct X (.Compare (.Call (.Name "repr" p1) [a] [] p2) [.Eq] [.Call (.Name "repr" q1) [b] [] q2] pos) (tV (eOp (pRpr true) fa fb)) :=
  ⟨(pt_cmpR op_eq (pe_rpr hG hr hm ha hg he) (pe_rpr hG hr hm hb hg he2) (by first | exact nomark _ | rfl)).imp fun _ _ _ h => rdT_tTest (fun _ _ _ z => rd_rpr (fun z H Q q => ⟨rfl, by simpa using q⟩) z) h⟩
theorem je_rprEq (hG : X.A.guards = some []) {k : Nat} (hr : Room k X.A) (hm : X.mg "repr" = none) (ha : JB ct X a fa) (hb : JB ct X b fb) (hg : Gl X "repr" := by rfl) (he : starEach [a] X.env = (false, eval a X.env) :: starEach [] X.env := by rfl) (he2 : starEach [b] X.env = (false, eval b X.env) :: starEach [] X.env := by rfl) :
    JE ct X (.Compare (.Call (.Name "repr" p1) [a] [] p2) [.Eq] [.Call (.Name "repr" q1) [b] [] q2] pos) (eOp (pRpr true) fa fb) :=
  ⟨(pe_cmpR op_eq (pe_rpr hG hr hm ha hg he) (pe_rpr hG hr hm hb hg he2) (by first | exact nomark _ | rfl)).imp fun _ _ _ z => rd_rpr (fun z H Q q => ⟨rfl, by simpa using q⟩) z⟩
end
end J
set_option Elab.async false
set_option linter.all false
set_option maxRecDepth 100000
/-! J: dict(pairs) and {k: v, ..}, keys ints, texts or tuples of them. -/
namespace J
open PySem L2

def mergeT {κ : Type} [DecidableEq κ] (acc more : List (κ × V)) : List (κ × V) := more.foldl (fun a kv => putK a kv.1 kv.2) acc
/-- the pairs stored one by one -/
def dAll (t : Bool) : List PV → List PV → List (PV × PV) → Option (List PV × List PV)
  | ks, vs, [] => some (ks, vs)
  | ks, vs, (k, v) :: r => if keyFit t k then dAll t (dPutK ks k) (dPutV ks vs k v) r else none
def prsOf : List PV → Option (List (PV × PV))
  | [] => some []
  | .tup [k, v] :: r => (prsOf r).map fun q => (k, v) :: q
  | _ => none
theorem length_mergeT {κ : Type} [DecidableEq κ] : ∀ (more acc : List (κ × V)), (mergeT acc more).length ≤ acc.length + more.length
  | [], acc => by simp [mergeT]
  | p :: r, acc => by
    have h1 := length_mergeT r (putK acc p.1 p.2)
    have h2 := length_putK acc p.1 p.2
    have e : mergeT acc (p :: r) = mergeT (putK acc p.1 p.2) r := rfl
    rw [e, List.length_cons]; omega
section
variable {K : PySem.W.Frag} {ct : Ct} {H : Hp} {A M : List Addr}
/-- the pairs' keys and values, as the heap has them -/
theorem dAll_rep {κ : Type} [DecidableEq κ] {e : κ → PV} (inj : ∀ a b, e a = e b → a = b) {t : Bool} : ∀ (more : List (κ × V)) (prs : List (PV × PV)) (acc : List (κ × V)) (vs : List PV) (ks' vs' : List PV), prs.map (·.1) = more.map (fun w => e w.1) → RepL K ct H A M (prs.map (·.2)) (more.map (·.2)) → RepL K ct H A M vs (acc.map (·.2)) →
    dAll t (acc.map fun w => e w.1) vs prs = some (ks', vs') → ks' = (mergeT acc more).map (fun w => e w.1) ∧ RepL K ct H A M vs' ((mergeT acc more).map (·.2))
  | [], prs, acc, vs, ks', vs', h1, h2, h3, h4 => by
    cases prs with
    | nil => cases h4; exact ⟨rfl, h3⟩
    | cons p r => simp at h1
  | w :: more, prs, acc, vs, ks', vs', h1, h2, h3, h4 => by
    cases prs with
    | nil => simp at h1
    | cons p r =>
      simp only [List.map_cons, List.cons.injEq] at h1
      obtain ⟨x, xs, e0, r1, r2⟩ := h2.inv
      simp only [List.map_cons, List.cons.injEq] at e0
      obtain ⟨rfl, rfl⟩ := e0
      unfold dAll at h4
      split at h4
      · obtain ⟨i1, i2⟩ := dPut_rep inj (k := w.1) r1 acc vs h3
        rw [h1.1] at h4
        rw [i1] at h4
        exact dAll_rep inj more _ (putK acc w.1 w.2) _ ks' vs' h1.2 r2 i2 h4
      · cases h4
end
theorem KT.merge {H : Hp} : ∀ (ps : List (List Key × Addr × V)) (prs acc : List (List Key × Addr × Value)) (kvs : List (List Key × V)), Paired (fun (p : List Key × Addr × V) (q : List Key × Addr × Value) => q.1 = p.1 ∧ q.2.1 = p.2.1 ∧ H p.2.1 = some (.tup (p.1.map kV)) ∧ RelV p.2.2 q.2.2) ps prs → KT H kvs acc →
    KT H (mergeT kvs (ps.map fun p => (p.1, p.2.2))) (storedAllH acc prs) := fun ps prs acc kvs h => by
  induction h generalizing acc kvs with
  | nil => intro r; exact r
  | @cons p q ps qs h t ih =>
    intro r
    obtain ⟨e1, e2, e3, e4⟩ := h
    have := ih (storedH acc q.1 q.2.1 q.2.2) (putK kvs p.1 p.2.2) (by rw [e1, e2]; exact r.put p.1 e3 e4)
    exact this
/-- dict(xs) of pairs whose keys are tuples -/
def rDT (K : PySem.W.Frag) : List V → Hp → VK → Prop := fun vs H Q => ∃ (a : Addr) (ts : List Addr) (ps : List (List Key × Addr × V)), vs = [.ref a] ∧ SqL K H a (ts.map V.ref) ∧ Paired (fun t (p : List Key × Addr × V) => SqT K H t [.ref p.2.1, p.2.2] ∧ H p.2.1 = some (.tup (p.1.map kV))) ts ps ∧
  ∀ q, H q = none → Q (.ref q) (upd H q (.dT (mergeT [] (ps.map fun p => (p.1, p.2.2)))))
theorem pairs_ofT {X : Cx} {pins : List (Addr × Obj)} {σ : St} {H : Hp} {s : Shared} (I : Inv X pins σ H s) : ∀ {ts : List Addr} {ps : List (List Key × Addr × V)}, Paired (fun t (p : List Key × Addr × V) => SqT X.K H t [.ref p.2.1, p.2.2] ∧ H p.2.1 = some (.tup (p.1.map kV))) ts ps →
    ∃ prs : List (List Key × Addr × Value), Paired (fun (p : List Key × Addr × V) (q : List Key × Addr × Value) => q.1 = p.1 ∧ q.2.1 = p.2.1 ∧ H p.2.1 = some (.tup (p.1.map kV)) ∧ RelV p.2.2 q.2.2) ps prs ∧ prs.length = ts.length ∧
      ∀ (j : Nat) (q : List Key × Addr × Value), prs[j]? = some q → ∃ t : Addr, ts[j]? = some t ∧ PySem.PairAt s.heap t (.ref q.2.1) q.2.2 := fun {ts ps} h => by
  induction h with
  | nil => exact ⟨[], .nil, rfl, fun j q e => by simp at e⟩
  | @cons t p ts ps h r ih =>
    obtain ⟨prs, r1, r2, r3⟩ := ih
    obtain ⟨h1, h2⟩ := h
    obtain ⟨its, rv, tup, _⟩ := I.tuple h1
    obtain ⟨u, y, rfl, ru, ry⟩ := rv.two
    cases (show u = Value.ref p.2.1 from ru)
    refine ⟨(p.1, p.2.1, y) :: prs, .cons ⟨rfl, rfl, h2, ry⟩ r1, by rw [List.length_cons, List.length_cons, r2], fun j q e => ?_⟩
    cases j with
    | zero =>
      cases (Option.some.inj e)
      exact ⟨t, rfl, .inl tup⟩
    | succ j => exact r3 j q e
theorem keysAt {H : Hp} {ps : List (List Key × Addr × V)} {prs : List (List Key × Addr × Value)} (rel : Paired (fun (p : List Key × Addr × V) (q : List Key × Addr × Value) => q.1 = p.1 ∧ q.2.1 = p.2.1 ∧ H p.2.1 = some (.tup (p.1.map kV)) ∧ RelV p.2.2 q.2.2) ps prs) : ∀ x ∈ prs, H x.2.1 = some (.tup (x.1.map kV)) := by
  induction rel with
  | nil => intro x hxZ; cases hxZ
  | cons h t ih =>
    intro x hxZ
    rcases List.mem_cons.mp hxZ with rfl | hxZ
    · rw [h.1, h.2.1]; exact h.2.2.1
    · exact ih x hxZ
theorem cr_dictT {X : Cx} (hcalm : X.calm = true) (hu : X.A.units + 64 < cLine) : CallR X (.type "dict") (rDT X.K) := by
  intro pinsZ s σ H vs us Q I r h
  obtain ⟨a, ts, ps, rfl, hq, hp, q⟩ := h
  rw [Vals.ref1 r]
  obtain ⟨itsZ, rv, pl, hz⟩ := I.list hq
  have ei := refs_at rv
  subst ei
  rw [List.length_map] at hz
  obtain ⟨prs, rel, hl, hpr⟩ := pairs_ofT I hp
  obtain ⟨oZ, n, ho, hc, hd, hdat⟩ := pl
  have hlt : prs.length ≤ sizeLine := by rw [hl]; exact hz
  have hkeys := keysAt rel
  refine call_dict_pairsH (knd := tupleKind (mixKind X.prog X.w)) (ps := prs) (PairArg.list a _ (fun j => (ts[j]?).getD 0) (prs.map fun p => (.ref p.2.1, p.2.2))) (I.ok.hd hcalm) ?_ ⟨⟨oZ, n, ho, hc, hd, hdat⟩, ?_, fun j k v e => ?_⟩ ⟨by rw [List.length_map], fun i key v e => ?_⟩ (fun h' hk x hx => ?_) (by rw [List.length_map]; exact hlt) fun h' tk hd' k => ?_
  · exact tupleKind_room_in1 (A := X.A.in1) (by show X.A.units + 1 + 1 < cLine; omega)
  · simp [hl]
  · rw [List.getElem?_map] at e
    cases hj : prs[j]? with
    | none => rw [hj] at e; cases e
    | some q =>
      rw [hj] at e
      cases e
      obtain ⟨t, e1, e2⟩ := hpr j q hj
      simp only [e1]
      exact ⟨by simp [e1], e2⟩
  · rw [PairRel, List.getElem?_map] at e
    cases hj : prs[i]? with
    | none => rw [hj] at e; cases e
    | some q =>
      rw [hj] at e
      cases e
      exact ⟨q.1, q.2.1, rfl, rfl⟩
  · obtain ⟨o', its', n', k1, k2, k3, k4⟩ := key_of I.hok (hkeys x hx)
    exact ⟨o', its', n', hk _ _ (Nat.ne_of_lt (Heap.lt_size k1)) (by simp) k1, k2, k3, k4⟩
  · have hmZ : (s.heap.objs.size == sysModules) = false := beq_eq_false_iff_ne.mpr (Nat.ne_of_gt I.big)
    have hnZ := I.hok.fresh (Nat.le_refl s.heap.objs.size)
    obtain ⟨q', es, ep, hq', h2, h3, h4, _, h5⟩ := hd'
    have hlen : (mergeT [] (ps.map fun p => (p.1, p.2.2))).length ≤ sizeLine := by
      refine Nat.le_trans (length_mergeT _ []) ?_
      rw [List.length_nil, Nat.zero_add, List.length_map, rel.length]
      exact hlt
    have kt := (KT.merge ps prs [] [] rel .nil).keeps (H' := upd H s.heap.objs.size (.dT (mergeT [] (ps.map fun p => (p.1, p.2.2))))) fun c ys ec => by
      rw [upd_ne (fun z => by subst z; rw [hnZ] at ec; cases ec)]; exact ec
    exact ⟨.ref s.heap.objs.size, upd H s.heap.objs.size (.dT (mergeT [] (ps.map fun p => (p.1, p.2.2)))), I.laid (t' := tk) (fun b u e => k b u (by simp) e) (Nat.le_refl _) (show ObjOk X.prog X.w _ _ _ (.dT (mergeT [] (ps.map fun p => (p.1, p.2.2)))) from ⟨hlen, hmZ, _, kt, q', es, ep, hq', h2, h3, h4, h5⟩), rfl, q _ hnZ⟩
/-! ### the expression -/
theorem dAll_fit {t : Bool} : ∀ {prs : List (PV × PV)} {ks vs : List PV} {r : List PV × List PV}, dAll t ks vs prs = some r → ∀ p ∈ prs, keyFit t p.1 = true
  | [], _, _, _, _, p, hpZ => by cases hpZ
  | q :: prs, ks, vs, r, h, p, hpZ => by
    unfold dAll at h
    split at h
    · rename_i hk
      rcases List.mem_cons.mp hpZ with rfl | hpZ
      · exact hk
      · exact dAll_fit h p hpZ
    · cases h
theorem prsOf_cons {x : PV} {r : List PV} {prs : List (PV × PV)} (h : prsOf (x :: r) = some prs) : ∃ k v q, x = .tup [k, v] ∧ prsOf r = some q ∧ prs = (k, v) :: q := by
  unfold prsOf at h
  split at h
  · rename_i he; cases he
  · rename_i k v r' he
    simp only [List.cons.injEq] at he
    obtain ⟨rfl, rfl⟩ := he
    obtain ⟨q, e1, rfl⟩ := Option.map_eq_some_iff.mp h
    exact ⟨k, v, q, rfl, e1, rfl⟩
  · cases h
section
variable {K : PySem.W.Frag} {ct : Ct} {H : Hp} {A M : List Addr}
theorem prs_repK : ∀ {xs : List PV} {vs : List V} {prs : List (PV × PV)}, RepL K ct H A M xs vs → prsOf xs = some prs → (∀ p ∈ prs, keyFit false p.1 = true) →
    ∃ (ts : List Addr) (kvs : List (Key × V)), vs = ts.map V.ref ∧ Paired (fun t kv => SqT K H t [kV kv.1, kv.2]) ts kvs ∧ prs.map (·.1) = kvs.map (fun w => keyV w.1) ∧ RepL K ct H A M (prs.map (·.2)) (kvs.map (·.2))
  | [], vs, prs, r, e, _ => by
    cases e
    exact ⟨[], [], RepL.nil_iff.mp r, .nil, rfl, .nil⟩
  | x :: xs, vs, prs, r, e, hf => by
    obtain ⟨k, v, q, rfl, e1, rfl⟩ := prsOf_cons e
    obtain ⟨y, ys, rfl, r1, r2⟩ := r.inv
    obtain ⟨ts, kvs, rfl, h2, h3, h4⟩ := prs_repK r2 e1 fun p hp => hf p (List.mem_cons_of_mem _ hp)
    obtain ⟨a, us, rfl, ha, hu⟩ := r1.tup_inv
    obtain ⟨u1, u2, rfl, hu1, hu2⟩ := hu.two
    have hk : (keyOf k).isSome = true := hf _ List.mem_cons_self
    obtain ⟨k', hk'⟩ := Option.isSome_iff_exists.mp hk
    have ek := keyOf_eq hk'
    subst ek
    have eu := hu1.key
    subst eu
    exact ⟨a :: ts, (k', u2) :: kvs, rfl, .cons ha.sqT h2, by rw [List.map_cons, List.map_cons, h3], .cons hu2 h4⟩
theorem prs_repT : ∀ {xs : List PV} {vs : List V} {prs : List (PV × PV)}, RepL K ct H A M xs vs → prsOf xs = some prs → (∀ p ∈ prs, keyFit true p.1 = true) →
    ∃ (ts : List Addr) (ps : List (List Key × Addr × V)), vs = ts.map V.ref ∧ Paired (fun t (p : List Key × Addr × V) => SqT K H t [.ref p.2.1, p.2.2] ∧ H p.2.1 = some (.tup (p.1.map kV))) ts ps ∧ prs.map (·.1) = (ps.map fun p => (p.1, p.2.2)).map (fun w => PV.tup (w.1.map keyV)) ∧ RepL K ct H A M (prs.map (·.2)) ((ps.map fun p => (p.1, p.2.2)).map (·.2))
  | [], vs, prs, r, e, _ => by
    cases e
    exact ⟨[], [], RepL.nil_iff.mp r, .nil, rfl, .nil⟩
  | x :: xs, vs, prs, r, e, hf => by
    obtain ⟨k, v, q, rfl, e1, rfl⟩ := prsOf_cons e
    obtain ⟨y, ys, rfl, r1, r2⟩ := r.inv
    obtain ⟨ts, ps, rfl, h2, h3, h4⟩ := prs_repT r2 e1 fun p hp => hf p (List.mem_cons_of_mem _ hp)
    obtain ⟨a, us, rfl, ha, hu⟩ := r1.tup_inv
    obtain ⟨u1, u2, rfl, hu1, hu2⟩ := hu.two
    have hk := hf _ List.mem_cons_self
    cases k with
    | tup ks =>
      have hk : (keysOf ks).isSome = true := hk
      obtain ⟨k', hk'⟩ := Option.isSome_iff_exists.mp hk
      have ek := keysOf_eq hk'
      subst ek
      obtain ⟨b, bs, rfl, hb, hbs⟩ := hu1.tup_inv
      have eb := hbs.keys
      subst eb
      exact ⟨a :: ts, (k', b, u2) :: ps, rfl, .cons ⟨ha.sqT, hb.1⟩ h2, by rw [List.map_cons, List.map_cons, List.map_cons, h3], .cons hu2 h4⟩
    | _ => cases hk
end
/-- dict(pairs) -/
def pDic (t : Bool) : PV → Option PV
  | .lst xs => if xs.length ≤ 1000000 then (prsOf xs).bind fun prs => (dAll t [] [] prs).map fun r => .dic t r.1 r.2 else none
  | _ => none
theorem fresh_dic1 {K : PySem.W.Frag} {ct : Ct} {G : Gh} {σ : St} {env : Env} {H H1 : Hp} {S S1 : Sto} {A1 : List Addr} {p : Addr} {o : HO} {v : PV} (g : Good K ct G σ H env S) (p1 : Post G.A H A1 H1) (s1 : StoOk K ct H1 A1 G.M S1) (np : H1 p = none) (ho : ∀ vs, o ≠ .tup vs) (c : Cont K ct (upd H1 p o) A1 (p :: G.M) p v) :
    Post G.A H A1 (upd H1 p o) ∧ H p = none ∧ p ∉ A1 ∧ StoOk K ct (upd H1 p o) A1 (p :: G.M) S1 := by
  have g1 := g.post p1 s1
  obtain ⟨k1, k2, k3⟩ := fresh_dic g1 np ho c
  refine ⟨p1.trans k1, ?_, k2, k3⟩
  cases e : H p with
  | none => rfl
  | some o =>
    by_cases ha : p ∈ G.A
    · exact absurd np (g1.inA p (p1.pre.subset ha))
    · rw [p1.ext p o e ha] at np; cases np
section
variable {ct : Ct} {X : Cx} {a : Expr} {fa : FE} {pos p : Pos}
theorem jf_dictC (t : Bool) {k : Nat} (hr : Room k X.A) (hm : X.mg "dict" = none) (ha : JB ct X a fa) (hc : X.calm = true := by rfl) (hg : Gl X "dict" := by rfl) (he : starEach [a] X.env = (false, eval a X.env) :: starEach [] X.env := by rfl) : JF ct X (.Call (.Name "dict" p) [a] [] pos) (eUn (pDic t) fa) := by
  refine ⟨(pe_callTy ((call_dictP hc).or (cr_dictT hc hr.units)) hg hm (by decide +kernel) (pa_cons ha.pe pa_nil he) (by decide) (by decide) he rfl).imp fun σ H Q h => ?_⟩
  obtain ⟨G, env, S, v, S', g, h1, q⟩ := h
  obtain ⟨⟨x, S1⟩, e1, h1⟩ := Res.bind_ok h1
  obtain ⟨z, e3, h1⟩ := Res.bind_ok h1
  cases h1
  have e4 := ofO_ok e3
  refine ⟨G, env, S, x, _, g, e1, fun x' H1 A1 p1 s1 r1 => ?_⟩
  cases x with
  | lst xs =>
    unfold pDic at e4
    dsimp only at e4
    split at e4
    · obtain ⟨prs, e5, e6⟩ := Option.bind_eq_some_iff.mp e4
      obtain ⟨⟨ks, vs⟩, e7, rfl⟩ := Option.map_eq_some_iff.mp e6
      obtain ⟨ad, us, rfl, k1, k2⟩ := r1.lst
      have hf := dAll_fit e7
      have lt : ∀ (pp : Addr) (o : HO), H1 pp = none → Lat A1 G.M H1 A1 (pp :: G.M) (upd H1 pp o) := fun pp o np => lat_hide np (same_new np)
      cases t with
      | false =>
        obtain ⟨ts, kvs, rfl, m1, m2, m3⟩ := prs_repK k2 e5 hf
        obtain ⟨n1, n2⟩ := dAll_rep (e := keyV) (fun _ _ z => keyV_inj z) kvs prs [] [] ks vs m2 m3 .nil e7
        refine .inl ⟨ad, ts, kvs, rfl, .inl (.inl k1), m1, fun pp np => ?_⟩
        have c : Cont X.K ct (upd H1 pp (.dK (mergeK [] kvs))) A1 (pp :: G.M) pp (.dic false ks vs) := .inl ⟨rfl, _, upd_same, n1, n2.lat (lt pp _ np) _ _⟩
        obtain ⟨c1, c2, c3, c4⟩ := fresh_dic1 g p1 s1 np (fun _ => by simp) c
        exact q pp _ A1 c1 c2 c3 c4 c
      | true =>
        obtain ⟨ts, ps, rfl, m1, m2, m3⟩ := prs_repT k2 e5 hf
        obtain ⟨n1, n2⟩ := dAll_rep (e := fun l : List Key => PV.tup (l.map keyV)) (fun _ _ z => tupKey_inj z) _ prs [] [] ks vs m2 m3 .nil e7
        refine .inr ⟨ad, ts, ps, rfl, .inl (.inl k1), m1, fun pp np => ?_⟩
        have c : Cont X.K ct (upd H1 pp (.dT (mergeT [] (ps.map fun p => (p.1, p.2.2))))) A1 (pp :: G.M) pp (.dic true ks vs) := .inr ⟨rfl, _, upd_same, n1, n2.lat (lt pp _ np) _ _⟩
        obtain ⟨c1, c2, c3, c4⟩ := fresh_dic1 g p1 s1 np (fun _ => by simp) c
        exact q pp _ A1 c1 c2 c3 c4 c
    · cases e4
  | _ => cases e4
end
end J
set_option Elab.async false
set_option linter.all false
set_option maxRecDepth 100000
/-! J: {k: v, ..}. -/
namespace J
open PySem L2

abbrev FP := Env → Sto → Res (List (PV × PV) × Sto)
section
variable (K : PySem.W.Frag) (ct : Ct)
def rdP (f : FP) (σ : St) (H : Hp) (Q : List (V × V) → Hp → Prop) : Prop := ∃ G env S v S', Good K ct G σ H env S ∧ f env S = .ok (v, S') ∧
  ∀ x H' A', Post G.A H A' H' → StoOk K ct H' A' G.M S' → RepL K ct H' A' G.M (v.map (·.1)) (x.map (·.1)) → RepL K ct H' A' G.M (v.map (·.2)) (x.map (·.2)) → Q x H'
end
structure JP (ct : Ct) (X : Cx) (pos : Pos) (keys : List (Option Expr)) (values : List Expr) (f : FP) : Prop where
  run : ∀ (pins : List (Addr × Obj)) (s : Shared) (σ : St) (H : Hp) (Q : List (V × V) → Hp → Prop), Inv X pins σ H s → rdP X.K ct f σ H Q → wpAny (model X.prog X.w) X.A (evalPairs (pairTrees keys values X.env pos)) (fun vs s' => ∃ ps H', Inv X pins σ H' s' ∧ VV ps vs ∧ Q ps H') X.xe s
def fpNil : FP := fun _ S => .ok ([], S)
def fpCons (a b : FE) (r : FP) : FP := fun env S => (a env S).bind fun x => (b env x.2).bind fun y => (r env y.2).bind fun z => .ok ((x.1, y.1) :: z.1, z.2)
section
variable {ct : Ct} {X : Cx} {pos : Pos} {k v : Expr} {ks : List (Option Expr)} {vs : List Expr} {fk fv : FE} {fr : FP}
theorem jp_nil : JP ct X pos [] [] fpNil := ⟨fun pins s σ H Q I h => by
  obtain ⟨G, env, S, v, S', g, h1, q⟩ := h
  cases h1
  exact pairTrees_nil_walk ⟨[], H, I, .nil, q [] H G.A (Post.refl H g.bs.nodup) g.bs.sto .nil .nil⟩⟩
theorem jp_cons (hk : JE ct X k fk) (hv : JE ct X v fv) (hr : JP ct X pos ks vs fr) : JP ct X pos (some k :: ks) (v :: vs) (fpCons fk fv fr) := ⟨fun pins s σ H Q I h => by
  obtain ⟨G, env, S, v, S', g, h1, q⟩ := h
  obtain ⟨⟨x, S1⟩, e1, h1⟩ := Res.bind_ok h1
  obtain ⟨⟨y, S2⟩, e2, h1⟩ := Res.bind_ok h1
  obtain ⟨⟨z, S3⟩, e3, h1⟩ := Res.bind_ok h1
  cases h1
  have A0 : rd X.K ct fk σ H fun x' H1 => rd X.K ct fv σ H1 fun y' H2 => rdP X.K ct fr σ H2 fun zs H3 => Q ((x', y') :: zs) H3 :=
    ⟨G, env, S, x, S1, g, e1, fun x' H1 A1 p1 s1 r1 => ⟨{ G with A := A1 }, env, S1, y, S2, g.post p1 s1, e2, fun y' H2 A2 p2 s2Z r2 =>
      ⟨{ G with A := A2 }, env, S2, z, _, (g.post p1 s1).post p2 s2Z, e3, fun zs H3 A3 p3 s3 r3 r4 =>
        q _ H3 A3 ((p1.trans p2).trans p3) s3 (.cons ((r1.lat (p2.lat G.M) x x').lat (p3.lat G.M) x x') r3) (.cons (r2.lat (p3.lat G.M) y y') r4)⟩⟩⟩
  exact pairTrees_cons_walk (thn (hk.pe.run pins s σ H _ I A0) fun u s1 ⟨x, H1, I1, rx, q1⟩ => thn (hv.pe.run pins s1 σ H1 _ I1 q1) fun w2 s2Z ⟨y, H2, I2, ry, q2⟩ =>
    thn (hr.run pins s2Z σ H2 _ I2 q2) fun ws s3 ⟨ps, H3, I3, rel, q3⟩ => ⟨(x, y) :: ps, H3, I3, .cons ⟨rx, ry⟩ rel, q3⟩)⟩
/-- {k: v, ..} -/
def eDis (t : Bool) (f : FP) : FE := fun env S => (f env S).bind fun x => match (if x.1.length ≤ 1000 then dAll t [] [] x.1 else none) with
  | some r => .ok (.dic t r.1 r.2, x.2)
  | none => .err
end
section
variable {K : PySem.W.Frag} {ct : Ct} {H : Hp} {A M : List Addr}
theorem prs_keyK : ∀ {prs : List (PV × PV)} {ps : List (V × V)}, RepL K ct H A M (prs.map (·.1)) (ps.map (·.1)) → RepL K ct H A M (prs.map (·.2)) (ps.map (·.2)) → (∀ p ∈ prs, keyFit false p.1 = true) →
    ∃ kvs : List (Key × V), ps = kvs.map (fun kv => (kV kv.1, kv.2)) ∧ prs.map (·.1) = kvs.map (fun w => keyV w.1) ∧ RepL K ct H A M (prs.map (·.2)) (kvs.map (·.2))
  | [], ps, r1, r2, _ => by
    have := r1.length
    simp at this
    subst this
    exact ⟨[], rfl, rfl, .nil⟩
  | p :: prs, [], r1, r2, _ => by have := r1.length; simp at this
  | p :: prs, q :: ps, r1, r2, hf => by
    obtain ⟨x, xs, e0, h1, h2⟩ := r1.inv
    simp only [List.map_cons, List.cons.injEq] at e0
    obtain ⟨rfl, rfl⟩ := e0
    obtain ⟨y, ys, e0, h3, h4⟩ := r2.inv
    simp only [List.map_cons, List.cons.injEq] at e0
    obtain ⟨rfl, rfl⟩ := e0
    obtain ⟨kvs, rfl, m2, m3⟩ := prs_keyK h2 h4 fun p hp => hf p (List.mem_cons_of_mem _ hp)
    have hk : (keyOf p.1).isSome = true := hf _ List.mem_cons_self
    obtain ⟨k', hk'⟩ := Option.isSome_iff_exists.mp hk
    have ek := keyOf_eq hk'
    dsimp only at h1
    rw [ek] at h1
    have eu := h1.key
    refine ⟨(k', q.2) :: kvs, ?_, by rw [List.map_cons, List.map_cons, m2, ek], .cons h3 m3⟩
    rw [List.map_cons, ← eu]
theorem prs_keyT : ∀ {prs : List (PV × PV)} {ps : List (V × V)}, RepL K ct H A M (prs.map (·.1)) (ps.map (·.1)) → RepL K ct H A M (prs.map (·.2)) (ps.map (·.2)) → (∀ p ∈ prs, keyFit true p.1 = true) →
    ∃ kvs : List (List Key × Addr × V), ps = kvs.map (fun kv => (.ref kv.2.1, kv.2.2)) ∧ (∀ p ∈ kvs, H p.2.1 = some (.tup (p.1.map kV))) ∧ prs.map (·.1) = (kvs.map fun p => (p.1, p.2.2)).map (fun w => PV.tup (w.1.map keyV)) ∧ RepL K ct H A M (prs.map (·.2)) ((kvs.map fun p => (p.1, p.2.2)).map (·.2))
  | [], ps, r1, r2, _ => by
    have := r1.length
    simp at this
    subst this
    exact ⟨[], rfl, (fun p hpZ => by cases hpZ), rfl, .nil⟩
  | p :: prs, [], r1, r2, _ => by have := r1.length; simp at this
  | p :: prs, q :: ps, r1, r2, hf => by
    obtain ⟨x, xs, e0, h1, h2⟩ := r1.inv
    simp only [List.map_cons, List.cons.injEq] at e0
    obtain ⟨rfl, rfl⟩ := e0
    obtain ⟨y, ys, e0, h3, h4⟩ := r2.inv
    simp only [List.map_cons, List.cons.injEq] at e0
    obtain ⟨rfl, rfl⟩ := e0
    obtain ⟨kvs, rfl, m1, m2, m3⟩ := prs_keyT h2 h4 fun p hpZ => hf p (List.mem_cons_of_mem _ hpZ)
    have hk := hf _ List.mem_cons_self
    obtain ⟨p1, p2⟩ := p
    obtain ⟨q1, q2⟩ := q
    cases p1 with
    | tup ls =>
      have hk : (keysOf ls).isSome = true := hk
      obtain ⟨k', hk'⟩ := Option.isSome_iff_exists.mp hk
      have ek := keysOf_eq hk'
      subst ek
      obtain ⟨b, bs, eb0, hb, hbs⟩ := h1.tup_inv
      have eb := hbs.keys
      subst eb
      dsimp only at eb0
      subst eb0
      exact ⟨(k', b, q2) :: kvs, rfl, (fun p hpZ => by
        rcases List.mem_cons.mp hpZ with rfl | hpZ
        · exact hb.1
        · exact m1 p hpZ), by rw [List.map_cons, List.map_cons, List.map_cons, m2], .cons h3 m3⟩
    | _ => cases hk
end
theorem carriesT {P : Program} {w : World} {H : Hp} {h : Heap} (ok : HOk P w H h) : ∀ {kvs : List (List Key × Addr × V)} {ws : List (Value × Value)}, (∀ p ∈ kvs, H p.2.1 = some (.tup (p.1.map kV))) → VV (kvs.map fun kv => (V.ref kv.2.1, kv.2.2)) ws →
    ∃ rs : List (List Key × Addr × Value), CarriesH (tupleKind (mixKind P w)) h ws rs ∧ Paired (fun (p : List Key × Addr × V) (q : List Key × Addr × Value) => q.1 = p.1 ∧ q.2.1 = p.2.1 ∧ H p.2.1 = some (.tup (p.1.map kV)) ∧ RelV p.2.2 q.2.2) kvs rs
  | [], _, _, r => by rw [List.map_nil] at r; cases r; exact ⟨[], True.intro, .nil⟩
  | p :: kvs, _, hk, r => by
    rw [List.map_cons] at r
    cases r with
    | @cons a b as bs h t =>
      obtain ⟨rs, c, q⟩ := carriesT ok (fun p hp => hk p (List.mem_cons_of_mem _ hp)) t
      obtain ⟨b1, b2⟩ := b
      cases (show b1 = Value.ref p.2.1 from h.1)
      exact ⟨(p.1, p.2.1, b2) :: rs, ⟨rfl, rfl, key_of ok (hk p List.mem_cons_self), c⟩, .cons ⟨rfl, rfl, hk p List.mem_cons_self, h.2⟩ q⟩
theorem disp_H {prog : Program} {w : World} {κ : Type} [DecidableEq κ] {knd : HeapKind prog w κ} {A : Around} {E : Value → Shared → Prop} {s : Shared} {env : PySem.Env} {keys : List (Option Expr)} {values : List Expr} {pos : Pos} {pairs : List (Sem Value × Sem Value)} {Q : Value → Shared → Prop} (hu : knd.room A) (hshape : (evalEachOpt keys env).zip ((evalEach values env).map fun v => do let x ← v; standAt pos; pure x) = pairs.map fun p => (some p.1, p.2)) (h0 : pairs ≠ []) (hlen : pairs.length ≤ 15) (h : wpAny (model prog w) A (evalPairs pairs) (fun vs s₁ => ∃ ps, CarriesH knd s₁.heap vs ps ∧ s₁.heap.DictOfH knd s.heap.objs.size [] ∧
      ∀ h' tk, h'.DictOfH knd s.heap.objs.size (storedAllH [] ps) → Heap.SameBut s.heap.objs.size s₁.heap h' → Q (.ref s.heap.objs.size) { s₁ with heap := h', toks := tk }) E { s with heap := s.heap.push { cls := .type "dict", data := .dict #[] } }) : wpAny (model prog w) A (eval (.Dict keys values pos) env) Q E s := by
  rw [arm_eval_Dict, hshape]; rw [dictDisplay_pairs pairs h0 (by omega)]
  refine wpAny_bind (wpAny_standAt (wpAny_bind (wpAny_subDictH (knd := knd) (Q := fun d s' => wpAny (model prog w) A (pure (Value.ref d)) Q E s') hu hlen (thn h fun vs s1 h1 => ?_))))
  obtain ⟨ps, hc, hm, hq⟩ := h1
  exact ⟨ps, hc, hm, fun h' tk a b => wpAny_pure (hq h' tk a b)⟩
section
variable {ct : Ct} {X : Cx} {pos : Pos} {keys : List (Option Expr)} {values : List Expr} {f : FP}
theorem jf_dispT {k : Nat} (hr : Room k X.A) (h : JP ct X pos keys values f) (hall : keys.all (·.isSome) = true := by rfl) (hl : keys.length = values.length := by rfl) (h0 : keys ≠ [] := by exact List.cons_ne_nil _ _) (h15 : keys.length ≤ 15 := by decide) : JF ct X (.Dict keys values pos) (eDis true f) := by
  refine ⟨⟨fun pins s σ H Q I hq => ?_⟩⟩
  obtain ⟨G, env, S, v, S', g, h1, q⟩ := hq
  obtain ⟨⟨prs, S1⟩, e1, h1⟩ := Res.bind_ok h1
  dsimp only at h1
  split at h1
  · rename_i r er
    cases h1
    obtain ⟨hk, er⟩ : prs.length ≤ 1000 ∧ dAll true [] [] prs = some r := by
      split at er
      · exact ⟨‹_›, er⟩
      · cases er
    have hnZ := I.hok.fresh (Nat.le_refl s.heap.objs.size)
    have I1 := I.laid (a := s.heap.objs.size) (o := .dT []) (h' := s.heap.push { cls := .type "dict", data := .dict #[] }) (t' := s.toks) (fun _ _ q => Heap.get?_push_of_some _ q) (Nat.le_refl _) (dt_empty s.heap I.big)
    have sm : Same H (upd H s.heap.objs.size (.dT [])) := same_new hnZ
    have g0 : Good X.K ct { G with M := s.heap.objs.size :: G.M } σ (upd H s.heap.objs.size (.dT [])) env S := g.hide hnZ sm (by rw [upd_same]; simp) (by rw [upd_same]; simp)
    have hln := pairTrees_length keys values X.env pos hall hl
    have A0 : rdP X.K ct f σ (upd H s.heap.objs.size (.dT [])) fun ps H2 => ∃ A2, Post G.A (upd H s.heap.objs.size (.dT [])) A2 H2 ∧ StoOk X.K ct H2 A2 (s.heap.objs.size :: G.M) S' ∧ RepL X.K ct H2 A2 (s.heap.objs.size :: G.M) (prs.map (·.1)) (ps.map (·.1)) ∧ RepL X.K ct H2 A2 (s.heap.objs.size :: G.M) (prs.map (·.2)) (ps.map (·.2)) :=
      ⟨_, env, S, prs, _, g0, e1, fun ps H2 A2 p2 s2 r3 r4 => ⟨A2, p2, s2, r3, r4⟩⟩
    refine disp_H (knd := tupleKind (mixKind X.prog X.w)) (pairs := pairTrees keys values X.env pos) (by show X.A.units < cLine; have := hr.units; omega) (zip_pairTrees keys values X.env pos hall hl) (fun he => by rw [he] at hln; exact h0 (List.length_eq_zero_iff.mp hln.symm)) (by rw [hln]; exact h15)
      (thn (h.run pins _ σ _ _ I1 A0) fun ws s2 ⟨ps, H2, I2, rel, A2, p2, st2, r3, r4⟩ => ?_)
    have g2 := g0.post p2 st2
    have hD : H2 s.heap.objs.size = some (.dT []) := p2.ext _ _ upd_same (g0.bs.disj _ List.mem_cons_self)
    obtain ⟨kvs, rfl, m1, m2, m3⟩ := prs_keyT r3 r4 (dAll_fit er)
    obtain ⟨n1, n2⟩ := dAll_rep (e := fun l : List Key => PV.tup (l.map keyV)) (fun _ _ z => tupKey_inj z) _ prs [] [] r.1 r.2 m2 m3 .nil er
    obtain ⟨rs, cr, rk⟩ := carriesT I2.hok m1 rel
    obtain ⟨z, hd, xs0, r0, dd⟩ := dt_of I2.hok hD
    cases r0
    refine ⟨rs, cr, dd, fun h' tk dk hs => ?_⟩
    obtain ⟨q', es, ep, hq', h2, h3, h4, _, h5⟩ := dk
    have kt : KT (upd H2 s.heap.objs.size (.dT (mergeT [] (kvs.map fun p => (p.1, p.2.2))))) (mergeT [] (kvs.map fun p => (p.1, p.2.2))) (storedAllH [] rs) := (KT.merge kvs rs [] [] rk .nil).keeps fun c ys ec => by
      rw [upd_ne (fun z => by subst z; rw [hD] at ec; cases ec)]; exact ec
    have hlen : (mergeT [] (kvs.map fun p => (p.1, p.2.2))).length ≤ sizeLine := by
      refine Nat.le_trans (length_mergeT _ []) ?_
      have l4 : kvs.length = prs.length := by
        have := congrArg List.length m2
        simpa using this.symm
      rw [List.length_nil, Nat.zero_add, List.length_map, l4]
      exact Nat.le_trans hk (by decide)
    have lu : Lat A2 (s.heap.objs.size :: G.M) H2 A2 (s.heap.objs.size :: G.M) (upd H2 s.heap.objs.size (.dT (mergeT [] (kvs.map fun p => (p.1, p.2.2))))) := lat_upd (.inr List.mem_cons_self)
    have hpA : s.heap.objs.size ∉ A2 := g2.bs.disj _ List.mem_cons_self
    refine ⟨.ref s.heap.objs.size, _, d_write (t' := tk) I2 (by rw [hD]; exact True.intro) hs ⟨q', hq'⟩ (show ObjOk X.prog X.w _ _ _ (.dT (mergeT [] (kvs.map fun p => (p.1, p.2.2)))) from ⟨hlen, hd, _, kt, q', es, ep, hq', h2, h3, h4, h5⟩), rfl, ?_⟩
    refine q _ _ A2 ⟨p2.pre, fun a o k1 k2 => ?_, fun a ha => ?_, p2.nodup⟩ hnZ hpA ⟨st2.len, fun n a xs k1 k2 => ?_⟩ (.inr ⟨rfl, _, upd_same, n1, n2.lat lu _ _⟩)
    · have hne : a ≠ s.heap.objs.size := fun z => by subst z; rw [hnZ] at k1; cases k1
      rw [upd_ne hne]
      exact p2.ext a o (by rw [upd_ne hne]; exact k1) k2
    · rcases p2.new a ha with z | z
      · exact .inl z
      · refine .inr ?_
        by_cases hne : a = s.heap.objs.size
        · subst hne; exact hnZ
        · rw [upd_ne hne] at z; exact z
    · obtain ⟨us, k3, k4⟩ := st2.at' n a xs k1 k2
      exact ⟨us, by rw [upd_ne (fun z => hpA (by rw [← z]; exact List.mem_of_getElem? k1))]; exact k3, k4.lat lu xs us⟩
  · cases h1
end
end J
set_option Elab.async false
set_option linter.all false
set_option maxRecDepth 100000
/-! J: the law's end. -/
namespace J
open L2 PySem PySem.Spec PyProof.Rows

/-- the abstract heap in which the law starts: the script alone, if it is none of the module's own objects -/
theorem start_heap {P : Program} {w : World} {K : PySem.W.Frag} {a : Addr} {t : Shared} {us : List Value} {ns : List Int} (kin : K.In t.heap)
    (at_a : t.heap.get? a = some { cls := .type "list", data := .seq us.toArray }) (hints : IntsAre us ns) (few : ns.length ≤ sizeLine) :
    ∃ H : Hp, SqL K H a (ns.map V.int) ∧ HOk P w H t.heap ∧ (∀ b u, H b = some u → b = a ∧ K.lookup a = none ∧ ∃ o xs, u = .frz o (.lst xs)) := by
  have vals := vals_ints hints
  by_cases own : K.lookup a = none
  · have key : ∀ (b : Addr) (u : HO), (if b = a then some (HO.frz { cls := .type "list", data := .seq us.toArray } (.lst (ns.map V.int))) else none) = some u → b = a ∧ u = .frz { cls := .type "list", data := .seq us.toArray } (.lst (ns.map V.int)) := fun b u e => by
      split at e
      · cases e; exact ⟨‹_›, rfl⟩
      · cases e
    refine ⟨fun b => if b = a then some (.frz { cls := .type "list", data := .seq us.toArray } (.lst (ns.map V.int))) else none, .inl (.inr ⟨_, if_pos rfl⟩), fun b u e => ?_, fun b u e => ?_⟩
    · obtain ⟨rfl, rfl⟩ := key b u e
      exact ⟨at_a, by rw [List.length_map]; exact few, us, _, vals, at_a⟩
    · obtain ⟨e1, e2⟩ := key b u e
      exact ⟨e1, own, _, _, e2⟩
  · obtain ⟨o, look⟩ := Option.ne_none_iff_exists'.mp own
    have same := (kin a o look).symm.trans at_a
    cases same
    refine ⟨fun _ => none, .inr ⟨_, us.toArray, _, look, rfl, rfl, rfl, by rw [List.size_toArray, hints.length]; exact few, by simpa using vals⟩, (fun b u e => nomatch (show (none : Option HO) = some u from e)), (fun b u e => nomatch (show (none : Option HO) = some u from e))⟩
/-- the law's call, for defs that ask for clear guards -/
theorem law_callG {P : Program} {w : World} {K : PySem.W.Frag} {mg mb : Str → Option Value} {k : Nat} {fa a : Addr} {fd : FuncData} {x : Str} {sp : Sp} {t : Shared} {us : List Value} {ns : List Int} (kin : K.In t.heap)
    (gl : t.heap.Ns mainGlobals mg) (bl : t.heap.Ns builtinsNs mb) (boot : ∀ y : Str, y ≠ "__name__" → mb y = bootBuiltins y) (lim : t.heap.NoLimit) (noG : t.gens = #[])
    (at_a : t.heap.get? a = some { cls := .type "list", data := .seq us.toArray }) (hints : IntsAre us ns) (few : ns.length ≤ sizeLine) (room : Room k callerA)
    (F : ∀ b0 : Heap, K.In b0 → b0.Ns mainGlobals mg → FnG P w K mg b0 k fa fd [x] sp) (binds : ∀ (z : Shared) (u : Value), BindsTo z fd ⟨[u], []⟩ [(x, u)])
    (pr : ∀ H : Hp, SqL K H a (ns.map V.int) → sp [.ref a] H (fun v _ => v = .bl true) fun _ _ _ => False) :
    codeAny (model P w) callerA (.call (.ref fa) ⟨[.ref a], []⟩) (fun r z => r = .ok (.ret (.bool true)) ∧ OldK t.heap z.heap ∧ z.os = t.os ∧ AllBare z.gens) t := by
  obtain ⟨H, sq, hok, only⟩ := start_heap (P := P) (w := w) kin at_a hints few
  have free : ∀ bZ o, t.heap.get? bZ = some o → H bZ = none → (hidT t.heap H).get? bZ = some o := fun bZ o e n => hidT_get e n
  have lift : ∀ {bZ : Addr} {m : Str → Option Value}, t.heap.Ns bZ m → (hidT t.heap H).Ns bZ m := by
    rintro bZ m ⟨o, es, ep, e, d, rest⟩
    refine ⟨o, es, ep, free bZ o e ?_, d, rest⟩
    match q : H bZ with
    | none => rfl
    | some u =>
      obtain ⟨rfl, _⟩ := only bZ u q
      rw [at_a] at e
      cases e
      exact nomatch (show Data.seq us.toArray _ = Data.dict es ep from d)
  have kin' : K.In (hidT t.heap H) := fun bZ o e => free bZ o (kin bZ o e) (by
    match q : H bZ with
    | none => rfl
    | some u =>
      obtain ⟨rfl, z, _⟩ := only bZ u q
      rw [z] at e; cases e)
  obtain ⟨mc, l1, l2⟩ := lim
  have start : Env0 P w K mg (hidT t.heap H) callerA [] t H := ⟨rfl, ⟨kin', lift gl, ⟨mb, lift bl, boot⟩, ⟨mc, lift l1, l2⟩⟩, fun _ _ e => of_hidT e, Nat.le_of_eq (hidT_size _ _), trivial, (fun bZ hb => nomatch (show bZ ∈ ([] : List Addr) from hb)), hok, .of_eq noG⟩
  refine codeAny_mono ((F _ kin' (lift gl)).run callerA [] t H ⟨[.ref a], []⟩ [.ref a] [.ref a] (fun v _ => v = .bl true) (fun _ _ _ => False) room rfl start (binds t (.ref a)) (.cons rfl .nil) (pr H sq)) fun r z hz => ?_
  match r, hz with
  | .ok (.ret u), ⟨v, H2, os, bare, un, hok2, ru, ev⟩ =>
    cases (show v = .bl true from ev)
    cases (show u = Value.bool true from ru)
    refine ⟨rfl, OldK.of_keep fun bZ o e => ?_, os, bare⟩
    match q : H bZ with
    | none => exact un.keep bZ o e q (fun c => nomatch (show bZ ∈ ([] : List Addr) from c)) (by simp)
    | some h =>
      obtain ⟨_, _, ob, xs, rfl⟩ := only bZ h q
      have c1 := (hok bZ _ q).1
      have c2 := (hok2 bZ _ (un.frzs bZ ob _ q)).1
      rw [e] at c1
      cases c1
      exact c2

theorem scr_start {K : PySem.W.Frag} {ct : Ct} {H : Hp} {a : Addr} {ns : List Int} (h : SqL K H a (ns.map V.int)) : Bs K ct [] [] H [] ∧ RepL K ct H [] [] [.scr ns] [.ref a] := by
  refine ⟨⟨⟨rfl, (fun n b xs h1 _ => by simp at h1)⟩, List.nodup_nil, (fun b hb => by cases hb), (fun b hb => by cases hb), (fun b hb => by cases hb)⟩, .cons ?_ .nil⟩
  simp only [Rep]
  refine ⟨a, rfl, ?_⟩
  rcases h with h | h
  · exact .inl ⟨h, by simp, by simp⟩
  · exact .inr (.inr h)
theorem sp_law {K : PySem.W.Frag} {ct : Ct} {f : List PV → Sto → Res (PV × Sto)} {ns : List Int} {H : Hp} {a : Addr} (hf : ∃ S', f [.scr ns] [] = .ok (.bl true, S')) (h : SqL K H a (ns.map V.int)) : spM K ct 1 f [.ref a] H (fun v _ => v = .bl true) fun _ _ _ => False := by
  obtain ⟨S', e⟩ := hf
  obtain ⟨b, r⟩ := scr_start (ct := ct) h
  exact ⟨rfl, [], [], _, [], _, S', b, r, e, fun x H' A' _ _ rx => Rep.bl_iff.mp rx⟩
/-- a law: F gives the written part, the pure function, the promise over every base -/
theorem walk_ofG {l : PySem.W.OpenLaw} {n k : Nat} {q : Program} {loose : List Str} {XP : (Str → Option Value) → Heap → Prop} {YP : World → Heap → Prop} {d : DefRec} {x : Str} {ct : PySem.W.Frag → Ct} {f : List PV → Sto → Res (PV × Sto)}
    (most : l.most = some n) (mostL : n ≤ sizeLine) (plain : d.params.defaults = []) (room : Room k callerA) (hf : ∀ ns : List Int, ns.length ≤ n → ∃ S', f [.scr ns] [] = .ok (.bl true, S'))
    (F : ∀ (w : World) (mg : Str → Option Value) (fa : Addr) (h : Heap), YP w h → h.Ns mainGlobals mg → mg d.name = some (.ref fa) → ∃ (K : PySem.W.Frag) (fd : FuncData), K.In h ∧ (∀ (s : Shared) (u : Value), BindsTo s fd ⟨[u], []⟩ [(x, u)]) ∧
        ∀ base : Heap, K.In base → base.Ns mainGlobals mg → FnG l.prog w K mg base k fa fd [x] (spM K (ct K) 1 f)) :
    PySem.W.WalkO q loose XP YP l.row.toRowW d [] (fun g zs => PySem.call g zs) := by
  refine Att.attach_call most plain fun w z t mg mb fa o pm cd doc a us ns G Y _ _ _ named there hints few noG => ?_
  obtain ⟨K, fd, kin, binds, ok⟩ := F w mg fa _ Y G.T.g named
  exact law_callG kin G.T.g G.T.b G.T.builtins G.T.nolimit noG there hints (Nat.le_trans few mostL) room ok binds fun H sq => sp_law (hf ns few) sq
end J
set_option Elab.async false
set_option linter.all false
set_option maxRecDepth 100000
/-! J: small joins for the printed texts. -/
namespace J
open PySem L2
section
variable {ct : Ct} {X : Cx} {a b : Expr} {fa fb : FE} {pos : Pos}
theorem je_globIx {x : Str} {i : Int} (hm : ∃ t, X.mg x = some (.int i t)) (hg : Gl X x := by rfl) (hd : (x == ("__debug__" : Str)) = false := by decide) : JE ct X (.Name x pos) (eC (.int i)) := by
  obtain ⟨t, hm⟩ := hm
  exact je_globI hg hm hd
def pMulA : PV → PV → Option PV
  | .int i, b => pMul (.int i) b
  | a, b => pRep a b
theorem je_mulA (ha : JB ct X a fa) (hb : JB ct X b fb) : JE ct X (.BinOp a .Mult b pos) (eOp pMulA fa fb) :=
  je_op (OpR.or op_mul (OpR.or op_rep op_repT)) (fun H A M x y vx vy v Q hx rx ry e q => by
    unfold pMulA at e
    split at e
    · exact .inl (ok_mul H A M x y _ vy v Q hx rx ry e q)
    · exact .inr (ok_rep H A M x y _ vy v Q hx rx ry e q)) ha hb
end
theorem funD_same {K : PySem.W.Frag} {x q x2 q2 : Str} {ps ps2 : Arguments} {b b2 : List Stmt} {sc sc2 : Scope} {f : Addr} {fd fd2 : FuncData} (F : FunD K x q ps b sc [] [] f fd) (F2 : FunD K x2 q2 ps2 b2 sc2 [] [] f fd2) : fd = fd2 := by
  obtain ⟨_, _, _, _, _, _, _, _, _, _, _, h, _⟩ := F.ex
  obtain ⟨_, _, _, _, _, _, _, _, _, _, _, h2, _⟩ := F2.ex
  rw [h] at h2
  simp only [Option.some.injEq, Obj.mk.injEq, Data.func.injEq] at h2
  exact h2.2.2.1
end J
set_option Elab.async false
set_option linter.all false
set_option maxRecDepth 100000
/-! J: keywords in any order, pairs of targets that own. -/
namespace J
open L2 PySem PySem.Spec PyProof.Rows

/-- the keywords ks, in their own order, stand for the parameters ps: g sorts the values -/
def KwP (x : Str) (st : Stmt) (ps ks : List Str) (g : {α : Type} → List α → List α) : Prop := ∀ (kV doc pm : Value) (an : Option Addr) (cdv ct : Value) (ws : List Value), ws.length = ks.length →
  bindArgs (PySem.W.fnOf x x (defArgs st) (defBody st) (defScope st) .none kV doc pm an cdv ct) ⟨[], ks.zip ws⟩ = pure (ps.zip (g ws))
def eCallP (f : List PV → Sto → Res (PV × Sto)) (g : {α : Type} → List α → List α) (b : FA) : FE := fun env S => (b env S).bind fun y => f (g y.1) y.2
def swap2 {α : Type} : List α → List α
  | [a, b] => [b, a]
  | l => l
section
variable {ct : Ct} {X : Cx} {k : Nat} {ps ks : List Str} {f : List PV → Sto → Res (PV × Sto)} {x : Str} {st : Stmt} {fk : FA} {pos p : Pos}
theorem je_callP {kws : List Keyword} (g : {α : Type} → List α → List α) (D : DefOk ct X.prog X.w X.K X.mg X.base x st k ps f) (hr : Room k X.A) (hG : X.A.guards = some []) (hK : KwP x st ps ks g) (hk : JK ct X kws fk) (hgl : ∀ {α : Type} (l : List α), (g l).length = l.length)
    (hgv : ∀ (l : List V) (m : List Value), Vals l m → Vals (g l) (g m)) (hgr : ∀ (H : Hp) (A M : List Addr) (l : List PV) (m : List V), RepL X.K ct H A M l m → RepL X.K ct H A M (g l) (g m))
    (hl2 : ∀ env S xs S', fk env S = .ok (xs, S') → xs.length = ps.length) (hpk : ks.length = ps.length := by rfl)
    (hall : (backToKw pos (keywordEach kws X.env)).all (·.1.isSome) = true := by rfl) (hks : (backToKw pos (keywordEach kws X.env)).filterMap (·.1) = ks := by rfl) (hg : Gl X x := by rfl) (hdb : (x == ("__debug__" : Str)) = false := by decide)
    (hpl : ((backTo pos (starEach [] X.env)).any (·.1) || (backToKw pos (keywordEach kws X.env)).any (·.1.isNone)) = false := by rfl) : JE ct X (.Call (.Name x p) [] kws pos) (eCallP f g fk) := by
  obtain ⟨fad, fd, FD, hm, F⟩ := D
  refine ⟨⟨fun pins s σ H Q I h => ?_⟩⟩
  obtain ⟨G, env, S, v, S', gd, h1, q⟩ := h
  obtain ⟨⟨zs, S2⟩, e2, h1⟩ := Res.bind_ok h1
  refine wpAny_Call_Name_kw (E := _) (ld_glob I hg hm ?_ hdb)
  have A0 : rdA X.K ct fk σ H fun ws H2 => spM X.K ct ps.length f (g ws) H2 Q E0 := ⟨G, env, S, zs, S2, gd, e2, fun ws H2 A2 p2 s2 r2 => call_of gd p2 s2 (hgr H2 A2 G.M zs ws r2) (by rw [hgl, r2.length, hl2 _ _ _ _ e2]) h1 q⟩
  refine PySem.W.callWith_KW0 (h₀ := X.base) I.ok.mod.kin FD.kp hall (thn (hk.pk.run pos pins s σ H _ I A0) fun ws s2 ⟨wv, H2, I2, rz, q2⟩ => ⟨I2.kIn, ?_⟩) hpl
  rw [hks]
  have l2 : ws.length = ks.length := by
    have l3 := q2.1
    rw [hgl] at l3
    rw [← rz.length, l3, hpk]
  have hb : BindsTo s2 fd ⟨[] ++ [], ks.zip ws⟩ (ps.zip (g ws)) := by
    obtain ⟨oc, od, dV, kV, doc, pm, an, cdv, ctv, osl, rfl, lk, hcd, hD, hKK⟩ := FD.ex
    rcases hD with ⟨_, e0⟩ | ⟨e0, _⟩
    · cases e0
      exact .of_eq (hK kV doc pm an cdv ctv ws l2)
    · exact absurd rfl e0
  exact run_fnG F hr hG hb I2 (hgv wv ws rz) q2
end
theorem swap2_len {α : Type} (l : List α) : (swap2 l).length = l.length := by
  unfold swap2
  split <;> rfl
theorem swap2_vals (l : List V) (m : List Value) (h : Vals l m) : Vals (swap2 l) (swap2 m) := by
  match l, m, h with
  | [], _, .nil => exact .nil
  | [_], _, .cons a .nil => exact .cons a .nil
  | [_, _], _, .cons a (.cons b .nil) => exact .cons b (.cons a .nil)
  | _ :: _ :: _ :: _, _, .cons a (.cons b (.cons c d)) => exact .cons a (.cons b (.cons c d))
theorem swap2_rep {K : PySem.W.Frag} {ct : Ct} (H : Hp) (A M : List Addr) (l : List PV) (m : List V) (h : RepL K ct H A M l m) : RepL K ct H A M (swap2 l) (swap2 m) := by
  match l, h with
  | [], h => rw [RepL.nil_iff.mp h]; exact .nil
  | [a], h => obtain ⟨v, rfl, r⟩ := h.one; exact .cons r .nil
  | [a, b], h => obtain ⟨v, w, rfl, r1, r2⟩ := h.two; exact .cons r2 (.cons r1 .nil)
  | a :: b :: c :: d, h =>
    obtain ⟨v, vs, rfl, r1, r2⟩ := h.inv
    obtain ⟨w, ws, rfl, r3, r4⟩ := r2.inv
    obtain ⟨u, us, rfl, r5, r6⟩ := r4.inv
    exact .cons r1 (.cons r3 (.cons r5 r6))
end J
set_option Elab.async false
set_option linter.all false
set_option maxRecDepth 100000
/-! J: a, b = x, y where one of the two owns. -/
namespace J
open PySem L2

theorem Good.hideF {K : PySem.W.Frag} {ct : Ct} {G : Gh} {σ : St} {env : Env} {H H1 : Hp} {S S1 : Sto} {A1 : List Addr} {p : Addr} {v : PV} (gd : Good K ct G σ H env S) (pp : Post G.A H A1 H1) (np : H p = none) (nA : p ∉ A1) (s : StoOk K ct H1 A1 (p :: G.M) S1) (c : Cont K ct H1 A1 (p :: G.M) p v) :
    Lat G.A G.M H A1 (p :: G.M) H1 ∧ Good K ct { G with A := A1, M := p :: G.M } σ H1 env S1 ∧ (∀ (j : Nat) (w : PV), env[j]? = some (.own w) → σ[j]? ≠ some (some (.ref p))) := by
  have s0 : StoOk K ct H1 A1 G.M S1 := s.less fun a ha => List.mem_cons_of_mem _ ha
  have g1 := gd.post pp s0
  obtain ⟨o, ho⟩ := c.there
  have lat : Lat G.A G.M H A1 (p :: G.M) H1 := ⟨pp.pre, fun b u eb n m => ⟨pp.ext b u eb n, pp.out eb n, fun hm => by
    rcases List.mem_cons.mp hm with hm | hm
    · subst hm; rw [np] at eb; cases eb
    · exact m hm⟩⟩
  refine ⟨lat, ⟨⟨s, g1.bs.nodup, fun a ha => ?_, fun a ha => ?_, fun a ha vs ev => ?_⟩, fun j sl hs => ?_, gd.uniq, g1.ext0, g1.pre0, g1.new0, fun a ha => List.mem_cons_of_mem _ (gd.sub0 a ha), gd.in0, gd.len⟩, fun j w ho' hz => ?_⟩
  · rcases List.mem_cons.mp ha with hm | hm
    · subst hm; rw [ho]; simp
    · exact g1.bs.inM a hm
  · rcases List.mem_cons.mp ha with hm | hm
    · subst hm; exact nA
    · exact g1.bs.disj a hm
  · rcases List.mem_cons.mp ha with hm | hm
    · subst hm; exact c.noT vs ev
    · exact g1.bs.noT a hm vs ev
  · have q := gd.slot j sl hs
    cases sl with
    | un => trivial
    | val w => obtain ⟨y, k1, k2⟩ := q; exact ⟨y, k1, k2.lat lat w y⟩
    | own w =>
      obtain ⟨p', k1, k2, k3, k4⟩ := q
      obtain ⟨o', ho'⟩ := k4.there
      exact ⟨p', k1, List.mem_cons_of_mem _ k2, k3, k4.lat lat ((pp.ext p' o' ho' (gd.bs.disj p' k2)).trans ho'.symm)⟩
  · obtain ⟨p', k1, k2, k3, k4⟩ := gd.slot j _ ho'
    rw [hz] at k1; cases k1
    exact gd.bs.inM p k2 np
def sParFE (i j : Nat) (a b : FE) : FS := fun env S => (a env S).bind fun x => (b env x.2).bind fun y => .ok (.nx ((env.set i (.own x.1)).set j (.val y.1)) y.2)
def sParEF (i j : Nat) (a b : FE) : FS := fun env S => (a env S).bind fun x => (b env x.2).bind fun y => .ok (.nx ((env.set i (.val x.1)).set j (.own y.1)) y.2)
section
variable {ct : Ct} {X : Cx} {a b : Expr} {fa fb : FE} {pos : Pos}
theorem js_parFE (i j : Nat) {x y : Str} {px py pt : Pos} {kt k2 pt2} (hN : X.N.Nodup) (ha : JF ct X a fa) (hb : JE ct X b fb) (hc : X.calm = true := by rfl) (hi : X.N[i]? = some x := by rfl) (hj : X.N[j]? = some y := by rfl) (hij : i ≠ j := by decide)
    (hx : X.env.scope.names.lookup x = some .local := by rfl) (hy : X.env.scope.names.lookup y = some .local := by rfl) (he : starEach [a, b] X.env = (false, eval a X.env) :: starEach [b] X.env := by rfl) (he2 : starEach [b] X.env = (false, eval b X.env) :: starEach [] X.env := by rfl)
    (hw : swappedStores [.Tuple [.Name x px, .Name y py] kt pt] (.Tuple [a, b] k2 pt2) X.env = pure (some [x, y]) := by rfl) (hs : swapsWithSole [.Tuple [.Name x px, .Name y py] kt pt] (.Tuple [a, b] k2 pt2) pos.line X.env = pure false := by rfl) :
    JS ct X (.Assign [.Tuple [.Name x px, .Name y py] kt pt] (.Tuple [a, b] k2 pt2) pos) (sParFE i j fa fb) := by
  refine ⟨(ps_par hc hN hi hj hij hx hy (pa_cons ha.pe (pa_cons hb.pe pa_nil he2) he) hw hs).imp fun D σ H h => ?_⟩
  obtain ⟨G, env, S, fl, gd, e, h⟩ := h
  obtain ⟨⟨u, S1⟩, e1, e2⟩ := Res.bind_ok e
  obtain ⟨⟨v, S2⟩, e3, e2⟩ := Res.bind_ok e2
  cases e2
  refine ⟨G, env, S, u, S1, gd, e1, fun p H1 A1 pp np nA s c => ?_⟩
  obtain ⟨lat, g1, fr⟩ := gd.hideF pp np nA s c
  refine ⟨_, env, S1, v, _, g1, e3, fun w H2 A2 p2 s2 r2 => ⟨_, _, rfl, ?_⟩⟩
  have g2 := g1.post p2 s2
  obtain ⟨o, ho⟩ := c.there
  have c2 : Cont X.K ct H2 A2 (p :: G.M) p u := c.lat (p2.lat _) ((p2.ext p o ho nA).trans ho.symm)
  have g3 := g2.setOwn (i := i) List.mem_cons_self (gd.fresh0 np) c2 fun l z _ hl => fr l z hl
  exact h _ H2 A2 (p :: G.M) (lat.trans (p2.lat _)) (g3.set r2)
theorem js_parEF (i j : Nat) {x y : Str} {px py pt : Pos} {kt k2 pt2} (hN : X.N.Nodup) (ha : JE ct X a fa) (hb : JF ct X b fb) (hc : X.calm = true := by rfl) (hi : X.N[i]? = some x := by rfl) (hj : X.N[j]? = some y := by rfl) (hij : i ≠ j := by decide)
    (hx : X.env.scope.names.lookup x = some .local := by rfl) (hy : X.env.scope.names.lookup y = some .local := by rfl) (he : starEach [a, b] X.env = (false, eval a X.env) :: starEach [b] X.env := by rfl) (he2 : starEach [b] X.env = (false, eval b X.env) :: starEach [] X.env := by rfl)
    (hw : swappedStores [.Tuple [.Name x px, .Name y py] kt pt] (.Tuple [a, b] k2 pt2) X.env = pure (some [x, y]) := by rfl) (hs : swapsWithSole [.Tuple [.Name x px, .Name y py] kt pt] (.Tuple [a, b] k2 pt2) pos.line X.env = pure false := by rfl) :
    JS ct X (.Assign [.Tuple [.Name x px, .Name y py] kt pt] (.Tuple [a, b] k2 pt2) pos) (sParEF i j fa fb) := by
  refine ⟨(ps_par hc hN hi hj hij hx hy (pa_cons ha.pe (pa_cons hb.pe pa_nil he2) he) hw hs).imp fun D σ H h => ?_⟩
  obtain ⟨G, env, S, fl, gd, e, h⟩ := h
  obtain ⟨⟨u, S1⟩, e1, e2⟩ := Res.bind_ok e
  obtain ⟨⟨v, S2⟩, e3, e2⟩ := Res.bind_ok e2
  cases e2
  refine ⟨G, env, S, u, S1, gd, e1, fun w H1 A1 p1 s1 r1 => ?_⟩
  have g1 := gd.post p1 s1
  refine ⟨_, env, S1, v, _, g1, e3, fun p H2 A2 pp np nA s c => ⟨_, _, rfl, ?_⟩⟩
  obtain ⟨lat, g2, fr⟩ := g1.hideF pp np nA s c
  have g3 := g2.set (i := i) (r1.lat lat u w)
  refine h _ H2 A2 (p :: G.M) ((p1.lat _).trans lat) (g3.setOwn List.mem_cons_self (g1.fresh0 np) c fun l z hne hl hz => ?_)
  rcases getSet hl with ⟨_, h0, _⟩ | ⟨hn, hl⟩
  · cases h0
  · rw [List.getElem?_set_ne hn] at hz
    exact fr l z hl hz
end
end J
set_option Elab.async false
set_option linter.all false
set_option maxRecDepth 100000
/-! J: min and max of three, tuples repeated. -/
namespace J
open PySem L2
def pMin3 : List PV → Option PV
  | [.int i, .int j, .int l] => some (.int (if l < (if j < i then j else i) then l else (if j < i then j else i)))
  | _ => none
theorem three_ints {ct : Ct} {K : PySem.W.Frag} {H : Hp} {A M : List Addr} {i j l : Int} {xs : List V} (r : RepL K ct H A M [.int i, .int j, .int l] xs) : xs = [.int i, .int j, .int l] := by
  obtain ⟨v, w, u, rfl, h1, h2, h3⟩ := r.three
  rw [Rep.int_iff.mp h1, Rep.int_iff.mp h2, Rep.int_iff.mp h3]
theorem ok_min3 {ct : Ct} {K : PySem.W.Frag} : CallOk K ct (rNuC3 nuMin3) pMin3 := fun H A M xs vs v Q hx r e q => by
  unfold pMin3 at e
  split at e
  · rename_i i j l
    cases e
    refine ⟨.int i, .int j, .int l, _, three_ints r, ?_, q _ H (Same.refl H) (Rep.int_iff.mpr rfl)⟩
    by_cases h1 : j < i
    · by_cases h2 : l < j <;> simp [nuMin3, nuMin2, nuLt, nuCB, h1, h2]
    · by_cases h2 : l < i <;> simp [nuMin3, nuMin2, nuLt, nuCB, h1, h2]
  · cases e
section
variable {ct : Ct} {X : Cx} {a b c : Expr} {fr : FA} {pos p : Pos}
theorem je_min3 (hm : X.mg "min" = none) (ha : JA ct X [a, b, c] fr) (hc : X.calm = true := by rfl) (hg : Gl X "min" := by rfl) (he : starEach [a, b, c] X.env = (false, eval a X.env) :: starEach [b, c] X.env := by rfl) (hpl : (backTo pos (starEach [b, c] X.env)).any (·.1) = false := by rfl) : JE ct X (.Call (.Name "min" p) [a, b, c] [] pos) (eB pMin3 fr) :=
  je_callB (call_min3Nu hc) ok_min3 hm ha hg (by decide +kernel) (by decide) (by decide) he hpl
end
end J
set_option Elab.async false
set_option linter.all false
set_option maxRecDepth 100000
/-! J: len(set(xs)) of a list of whole numbers. -/
namespace J
open PySem L2
def metN (ns : List Int) : List Int := PyProof.Rows.firstMet (fun i => ns.getD i 0) ns.length
def rSetI (K : PySem.W.Frag) : List V → Hp → VK → Prop := fun xs H Q => ∃ (a : Addr) (ns : List Int), xs = [.ref a] ∧ SqL K H a (ns.map V.int) ∧ ns.length + 1 < 4096 ∧ ∀ p, H p = none → Q (.ref p) (upd H p (.set (fun k => (metN ns).any (· == k)) (metN ns).length))
theorem cr_setI {X : Cx} (hcalm : X.calm = true) : CallR X (.type "set") (rSetI X.K) := by
  intro pins s σ H xs us Q I r hh
  obtain ⟨a, ns, rfl, sq, few, q⟩ := hh
  rw [Vals.ref1 r]
  obtain ⟨its, rv, pl, hz⟩ := I.list sq
  have hi := rv.ints
  have hl : its.toArray.size = ns.length := by rw [List.size_toArray, ← rv.length, List.length_map]
  refine call_set_list (ns := ns) (I.ok.hd hcalm) pl.isList (by simpa using hi) (by rw [hl]; exact few) fun h' tk hS hk => ?_
  rw [hl] at hS
  exact ⟨.ref s.heap.objs.size, _, I.laid (t' := tk) (o := .set (fun k => (metN ns).any (· == k)) (metN ns).length) (fun b u e => hk b u (Heap.lt_size e) e) (Nat.le_refl _) (show ObjOk X.prog X.w _ h' _ (.set (fun k => (metN ns).any (· == k)) (metN ns).length) from hS), rfl, q _ (I.hok.fresh (Nat.le_refl _))⟩
def rLenSet : List V → Hp → VK → Prop := fun xs H Q => ∃ (a : Addr) (S : Int → Bool) (n : Nat), xs = [.ref a] ∧ H a = some (.set S n) ∧ Q (.int n) H
theorem cr_lenSet {X : Cx} : CallR X (.builtin "len") rLenSet := by
  intro pins s σ H xs us Q I r hh
  obtain ⟨a, S, n, rfl, ha, q⟩ := hh
  rw [Vals.ref1 r]
  obtain ⟨o, es, ep, t, ho, hx, hd, _, _, h4, h5, h6⟩ := (show s.heap.SetOf (intKind X.prog X.w) a S n from I.hok a _ ha)
  refine call_len_set ho hx hd h5 (by have : scanBound = 4096 := rfl; omega) ?_
  exact ⟨.int n, H, I.tok _, ⟨_, by rw [h6]⟩, q⟩
def pSetLen : PV → Option PV
  | .lst xs => (intsP xs).bind fun ns => if ns.length + 1 < 4096 then some (.int (metN ns).length) else none
  | _ => none
section
variable {ct : Ct} {X : Cx} {a : Expr} {fa : FE} {pos p q1 q2 : Pos}
theorem je_lenset (hm : X.mg "len" = none) (hm2 : X.mg "set" = none) (ha : JB ct X a fa) (hc : X.calm = true := by rfl) (hg : Gl X "len" := by rfl) (hg2 : Gl X "set" := by rfl) (he : starEach [a] X.env = (false, eval a X.env) :: starEach [] X.env := by rfl)
    (he2 : starEach [.Call (.Name "set" q1) [a] [] q2] X.env = (false, eval (.Call (.Name "set" q1) [a] [] q2) X.env) :: starEach [] X.env := by rfl) : JE ct X (.Call (.Name "len" p) [.Call (.Name "set" q1) [a] [] q2] [] pos) (eUn pSetLen fa) := by
  refine ⟨(pe_callB cr_lenSet hg hm PySem.boot_len (pa_cons (pe_callTy (cr_setI hc) hg2 hm2 (by decide +kernel) (pa_cons ha.pe pa_nil he) (by decide) (by decide) he rfl) pa_nil he2) (by decide) (by decide) he2 rfl).imp fun σ H Q h => ?_⟩
  obtain ⟨G, env, S, v, S', g, h1, q⟩ := h
  obtain ⟨⟨x, S1⟩, e1, h1⟩ := Res.bind_ok h1
  obtain ⟨z, e3, h1⟩ := Res.bind_ok h1
  cases h1
  refine ⟨G, env, S, x, _, g, e1, fun x' H1 A1 p1 s1 r1 => ?_⟩
  have g1 := g.post p1 s1
  have e4 := ofO_ok e3
  cases x with
  | lst xs =>
    obtain ⟨ns, e5, e6⟩ := Option.bind_eq_some_iff.mp e4
    split at e6
    · rename_i few
      cases e6
      have ex := intsP_eq e5
      subst ex
      obtain ⟨ad, vs, rfl, k1, k2⟩ := r1.lst
      have ev := k2.ints
      subst ev
      refine ⟨ad, ns, rfl, .inl (.inl k1), few, fun pp np => ⟨pp, _, _, rfl, upd_same, ?_⟩⟩
      exact q _ _ A1 (p1.trans (Post.grow g1.bs.nodup (same_new np))) (s1.grow g1.bs.nodup (same_new np)) (Rep.int_iff.mpr rfl)
    · cases e6
  | _ => cases e4
end
end J
set_option Elab.async false
set_option linter.all false
set_option maxRecDepth 100000
set_option maxHeartbeats 3900000
/-! J: a tuple of one element taken 0 times or once. -/
namespace J
open PySem L2 PySem.Spec PyProof.Rows
theorem tmul_one (l : Addr) (items : Array Value) (n : Nat) (dd : Option Addr) (sl : Array (Option Value)) (u : Tok) :
    Meets (Builtin.«tuple.__mul__» ⟨[.ref l, .int 1 u], []⟩) (fun _ R s => s.heap.get? l = some { cls := .type "tuple", dict := dd, data := .seq items n, slots := sl } ∧ R (.ok (.ret (Value.ref l))) s) :=
  .of_wp fun prg wld A R sh h => by
    obtain ⟨hpq, gq, dq, tkq, osq⟩ := sh
    obtain ⟨hlq, h⟩ := h
    have f1 := AutoSeq1.idx_int
    have q0 : (decide ((1 : Int) < -(2 ^ 63)) || decide ((1 : Int) ≥ 2 ^ 63)) = false := by decide
    have q1 : (items.isEmpty || (1 : Int) == 1) = true := by simp
    wp_walk using wpAny_loadPart' hlq
    repeat (first
      | (refine wpAny_ite_false (decide_eq_false (by rw [q0]; exact Bool.false_ne_true)) ?_; wp_walk using wpAny_loadPart' hlq)
      | (refine wpAny_ite_true (decide_eq_true (by rw [q1])) ?_; wp_walk using wpAny_loadPart' hlq))
    exact ⟨_, rfl, h⟩
theorem tmul_zero (l : Addr) (items : Array Value) (n : Nat) (dd : Option Addr) (sl : Array (Option Value)) (u : Tok) (q1 : (items.isEmpty || (0 : Int) == 1) = false) :
    Meets (Builtin.«tuple.__mul__» ⟨[.ref l, .int 0 u], []⟩) (fun _ R s => s.heap.get? l = some { cls := .type "tuple", dict := dd, data := .seq items n, slots := sl } ∧
      R (.ok (.ret (Value.ref s.heap.objs.size))) { s with heap := s.heap.push { cls := Value.type "tuple", data := Data.seq #[] }, toks := s.toks }) :=
  .of_wp fun prg wld A R sh h => by
    obtain ⟨hpq, gq, dq, tkq, osq⟩ := sh
    obtain ⟨hlq, h⟩ := h
    have f1 := AutoSeq1.idx_int
    have q0 : (decide ((0 : Int) < -(2 ^ 63)) || decide ((0 : Int) ≥ 2 ^ 63)) = false := by decide
    have q2 : (decide ((0 : Int) ≤ 0) || items.isEmpty) = true := by simp
    wp_walk using wpAny_loadPart' hlq
    repeat (first
      | (refine wpAny_ite_false (decide_eq_false (by rw [q0]; exact Bool.false_ne_true)) ?_; wp_walk using wpAny_loadPart' hlq)
      | (refine wpAny_ite_false (decide_eq_false (by rw [q1]; exact Bool.false_ne_true)) ?_; wp_walk using wpAny_loadPart' hlq)
      | (refine wpAny_ite_true (decide_eq_true (by rw [q2])) ?_; wp_walk using wpAny_loadPart' hlq))
    exact ⟨_, rfl, h⟩
def rRep01 (K : PySem.W.Frag) : R2 := fun x y H Q => ∃ l xs, x = .ref l ∧ SqT K H l xs ∧ xs ≠ [] ∧ ((y = .int 1 ∧ Q (.ref l) H) ∨ (y = .int 0 ∧ ∀ p, H p = none → Q (.ref p) (upd H p (.tup []))))
section
variable {X : Cx}
theorem op_rep01 : OpR X (binaryOp .Mult) (rRep01 X.K) := by
  intro pinsQ s σ H x y v u Q I rx ry hq
  obtain ⟨l, xs, rfl, hT, hne, h⟩ := hq
  cases rx
  obtain ⟨its, r, ⟨⟨cls, dd, data, sl⟩, ho, hc, n, hd⟩, _⟩ := I.tuple hT
  simp only at hc hd
  subst hc hd
  have hn : its ≠ [] := fun e => by
    rw [e] at r
    cases r
    exact hne rfl
  have hiq : its.toArray.isEmpty = false := by
    cases its with
    | nil => exact absurd rfl hn
    | cons a b => rfl
  rcases h with ⟨rfl, q⟩ | ⟨rfl, q⟩
  · obtain ⟨t, rfl⟩ := ry
    refine wpAny_binaryOp_repeat_ref (T := "tuple") (U := "int") (by decide) ⟨_, ho, rfl⟩ (fun s' => typeIs_int s' 1 t) noFill_tuple_mul F.fills_int_mul F.slot_int_rmul repeat_tuple F.slot_int_index.lookup
      (call_meets F.slot_int_rmul (typeIs_int s 1 t) F.entry_int_rmul (F.args_int_rmul_2 _ _) (int_rmul_tuple 1 t l its.toArray n dd sl)
        ⟨ho, rfl, ⟨_, ho, rfl⟩, call_meets F.slot_tuple_mul ⟨_, ho, rfl⟩ F.entry_tuple_mul (F.args_tuple_mul_2 _ _) (tmul_one l its.toArray n dd sl t) ⟨ho, ?_⟩⟩)
    exact ⟨.ref l, H, I, rfl, q⟩
  · obtain ⟨t, rfl⟩ := ry
    refine wpAny_binaryOp_repeat_ref (T := "tuple") (U := "int") (by decide) ⟨_, ho, rfl⟩ (fun s' => typeIs_int s' 0 t) noFill_tuple_mul F.fills_int_mul F.slot_int_rmul repeat_tuple F.slot_int_index.lookup
      (call_meets F.slot_int_rmul (typeIs_int s 0 t) F.entry_int_rmul (F.args_int_rmul_2 _ _) (int_rmul_tuple 0 t l its.toArray n dd sl)
        ⟨ho, rfl, ⟨_, ho, rfl⟩, call_meets F.slot_tuple_mul ⟨_, ho, rfl⟩ F.entry_tuple_mul (F.args_tuple_mul_2 _ _) (tmul_zero l its.toArray n dd sl t (by rw [hiq]; rfl)) ⟨ho, ?_⟩⟩)
    refine ⟨.ref s.heap.objs.size, _, I.laid (t' := s.toks) (o := .tup []) (fun b ob q => Heap.get?_push_of_some _ q) (Nat.le_refl _) ?_, rfl, q _ (I.hok.fresh (Nat.le_refl _))⟩
    exact ⟨by rw [sizeLine_eq]; decide, _, .nil, IsTup.new _ _⟩
end
/-- a product, a repeated list, a repeated tuple of one element -/
def pMulB : PV → PV → Option PV
  | .tup [x], .int k => if k = 1 then some (.tup [x]) else if k = 0 then some (.tup []) else pRep (.tup [x]) (.int k)
  | a, b => pMulA a b
section
variable {ct : Ct} {X : Cx} {a b : Expr} {fa fb : FE} {pos : Pos}
theorem je_mulB (ha : JB ct X a fa) (hb : JB ct X b fb) : JE ct X (.BinOp a .Mult b pos) (eOp pMulB fa fb) :=
  je_op (OpR.or op_rep01 (OpR.or op_mul (OpR.or op_rep op_repT))) (fun H A M x y vx vy v Q hx rx ry e q => by
    unfold pMulB at e
    split at e
    · rename_i x0 k
      split at e
      · rename_i hk
        cases e
        subst hk
        refine .inl ?_
        obtain ⟨ad, vs, rfl, k1, k2⟩ := rx.tup
        refine ⟨ad, vs, rfl, k1.sqT, ?_, .inl ⟨by rw [ry.int], q _ _ ?_ ?_⟩⟩
        · intro z; have := k2.length; rw [z] at this; simp at this
        · exact Same.refl H
        · simp only [Rep]
          exact ⟨ad, vs, rfl, k1, k2⟩
      · split at e
        · rename_i hk0 hk
          cases e
          subst hk
          refine .inl ?_
          obtain ⟨ad, vs, rfl, k1, k2⟩ := rx.tup
          refine ⟨ad, vs, rfl, k1.sqT, ?_, .inr ⟨by rw [ry.int], fun p np => ?_⟩⟩
          · intro z; have := k2.length; rw [z] at this; simp at this
          obtain ⟨k3, k4⟩ := hx.new_tup (K := X.K) (ct := ct) RepL.nil np
          exact q _ _ k3 k4
        · exact .inr (.inr (ok_rep H A M x y _ _ v Q hx rx ry e q))
    · refine .inr ?_
      unfold pMulA at e
      split at e
      · exact .inl (ok_mul H A M x y _ vy v Q hx rx ry e q)
      · exact .inr (ok_rep H A M x y _ vy v Q hx rx ry e q)) ha hb
end
end J
set_option Elab.async false
set_option linter.all false
set_option maxRecDepth 100000
set_option maxHeartbeats 3900000
/-! J: tuple(range(..)), list(range(..)). -/
namespace J
open PySem L2 PySem.Spec PyProof.Rows
def rgW (i c : Int) (n : Nat) : List V := (List.range n).map fun (k : Nat) => V.int (i + (k : Int) * c)
theorem rgW_len (i c : Int) (n : Nat) : (rgW i c n).length = n := by unfold rgW; rw [List.length_map, List.length_range]
theorem rgW_vals {i c : Int} {n : Nat} {acc : Array Value} (h : ItemsOf (fun k v => ∃ t, v = .int (i + k * c) t) acc n) : Vals (rgW i c n) acc.toList := by
  have e : acc.toList.length = n := by rw [Array.length_toList]; exact h.1
  unfold rgW
  rw [← e]
  (refine vals_of_get acc.toList _ fun j u hj => ?_)
  (obtain ⟨t, rfl⟩ := h.2 j u (by rw [← hj, Array.getElem?_toList]))
  exact ⟨t, rfl⟩
/-- an expression that makes a range: where it begins, its step, how many -/
def PRn (X : Cx) (e : Expr) (t : L2.St → Hp → (Int → Int → Nat → Hp → Prop) → Prop) : Prop :=
  ∀ (pins : List (Addr × Obj)) (s : Shared) (σ : L2.St) (H : Hp) (Q : Int → Int → Nat → Hp → Prop), Inv X pins σ H s → t σ H Q →
    wpAny (model X.prog X.w) X.A (eval e X.env) (fun x s' => ∃ r a b c t u v n H', x = .ref r ∧ IsRange s'.heap r a b c t u v ∧ Builtin.Range.small a b c = true ∧ Builtin.Range.rangeSize a b c = (n : Nat) ∧ Inv X pins σ H' s' ∧ Q a c n H') X.xe s
section
variable {X : Cx} {a b c : Expr} {ta : TA} {p pos : Pos}
theorem prn_1 (hg : Gl X "range") (hm : X.mg "range" = none) (ha : PA X [a] ta) (hs : starEach [a] X.env = [(false, eval a X.env)] := by rfl) :
    PRn X (.Call (.Name "range" p) [a] [] pos) (fun σ H Q => ta σ H fun vs H1 => ∃ j, vs = [.int j] ∧ bdI j = true ∧ Q 0 1 j.toNat H1) := fun pins s σ H Q I h => by
  refine Call_ (ld_blt I hg hm boot_range (PyProof.Rows.callWith_type1 (thn (ha.run pos pins s σ H _ I h) fun usQ s1 ⟨vs, H1, I1, r1, q1⟩ => ?_) hs rfl))
  obtain ⟨j, e, hb, q⟩ := q1
  obtain ⟨b1, b2⟩ := bdI_ok hb
  subst e
  obtain ⟨u, rfl, t, rfl⟩ := vals1 r1
  refine call_range_1 ⟨_, 0, j, 1, _, _, _, j.toNat, H1, rfl, IsRange.new _ _ _ _ _ _ _, small_one (by omega) (by omega) b1 b2, ?_, I1.kept fun b u e => Heap.get?_push_of_some _ e, q⟩
  rw [rangeSize_nat]; simp
theorem prn_2 (hg : Gl X "range") (hm : X.mg "range" = none) (ha : PA X [a, b] ta) (hs : starEach [a, b] X.env = [(false, eval a X.env), (false, eval b X.env)] := by rfl) (hs2 : starEach [b] X.env = [(false, eval b X.env)] := by rfl) :
    PRn X (.Call (.Name "range" p) [a, b] [] pos) (fun σ H Q => ta σ H fun vs H1 => ∃ i j, vs = [.int i, .int j] ∧ bdI i = true ∧ bdI j = true ∧ Q i 1 (j - i).toNat H1) := fun pins s σ H Q I h => by
  refine Call_ (ld_blt I hg hm boot_range (PyProof.Rows.callWith_type1 (thn (ha.run pos pins s σ H _ I h) fun usQ s1 ⟨vs, H1, I1, r1, q1⟩ => ?_) (by rw [hs, hs2]) (by rw [hs2]; rfl)))
  obtain ⟨i, j, e, hb, hb', q⟩ := q1
  obtain ⟨b1, b2⟩ := bdI_ok hb
  obtain ⟨b3, b4⟩ := bdI_ok hb'
  subst e
  cases r1 with
  | cons r rr =>
    obtain ⟨u, rfl, t', rfl⟩ := vals1 rr
    obtain ⟨t, rfl⟩ := r
    exact call_range_2 ⟨_, i, j, 1, _, _, _, (j - i).toNat, H1, rfl, IsRange.new _ _ _ _ _ _ _, small_one b1 b2 b3 b4, rangeSize_nat _ _, I1.kept fun b u e => Heap.get?_push_of_some _ e, q⟩
theorem prn_3 (hg : Gl X "range") (hm : X.mg "range" = none) (ha : PA X [a, b, c] ta) (hs : starEach [a, b, c] X.env = (false, eval a X.env) :: starEach [b, c] X.env := by rfl) (hpl : (backTo pos (starEach [b, c] X.env)).any (·.1) = false := by rfl) :
    PRn X (.Call (.Name "range" p) [a, b, c] [] pos) (fun σ H Q => ta σ H fun vs H1 => ∃ i j, vs = [.int i, .int j, .int (-1)] ∧ bdI i = true ∧ bdI j = true ∧ Q i (-1) (i - j).toNat H1) := fun pins s σ H Q I h => by
  refine Call_ (ld_blt I hg hm boot_range (PyProof.Rows.callWith_type1 (thn (ha.run pos pins s σ H _ I h) fun usQ s1 ⟨vs, H1, I1, r1, q1⟩ => ?_) hs hpl))
  obtain ⟨i, j, e, hb, hb', q⟩ := q1
  obtain ⟨b1, b2⟩ := bdI_ok hb
  obtain ⟨b3, b4⟩ := bdI_ok hb'
  obtain ⟨c0, c1, c2, c3⟩ := RgC.neg b1 b2 b3 b4
  subst e
  cases r1 with
  | cons r rr =>
    cases rr with
    | cons r' rr =>
      obtain ⟨u, rfl, t'', rfl⟩ := vals1 rr
      obtain ⟨t, rfl⟩ := r
      obtain ⟨t', rfl⟩ := r'
      exact call_range_3 c0 ⟨_, i, j, -1, _, _, _, (i - j).toNat, H1, rfl, IsRange.new _ _ _ _ _ _ _, c2, c3, I1.kept fun b u e => Heap.get?_push_of_some _ e, q⟩ (.inl (PyProof.noPylong_small c1))
variable {e : Expr} {te : L2.St → Hp → (Int → Int → Nat → Hp → Prop) → Prop}
theorem pe_tupRn (hc : X.calm = true) (hg : Gl X "tuple") (hm : X.mg "tuple" = none) (he : PRn X e te) (na : starEach [e] X.env = (false, eval e X.env) :: starEach [] X.env := by rfl) :
    PE X (.Call (.Name "tuple" p) [e] [] pos) (fun σ H Q => te σ H fun i c n H1 => n ≤ 1000000 ∧ ∀ q, H1 q = none → Q (.ref q) (upd H1 q (.tup (rgW i c n)))) := by
  refine ⟨fun pinsQ s σ H Q I h => ?_⟩
  refine Call_ (ld_blt I hg hm boot_tuple (PyProof.Rows.callWith_type1 (args_cons (thn (he pinsQ s σ H _ I h) fun x s1 ⟨r, a, b, c, t, u, v, n, H1, ex, hr, hsm, hsz, I1, ok, q⟩ => args_nil ?_) na) na))
  subst ex
  refine call_tuple_range (n := n) (I1.ok.hd hc) hr hsm hsz (by omega) fun h' tk acc hk hi => ?_
  have I2 : Inv X pinsQ σ H1 { s1 with heap := h', toks := tk } := I1.kept hk
  refine ⟨.ref h'.objs.size, upd H1 h'.objs.size (.tup (rgW a c n)), I2.laid (t' := tk) (fun c o e => Heap.get?_push_of_some _ e) (Nat.le_refl _) (show ObjOk X.prog X.w _ _ _ (.tup (rgW a c n)) from ⟨?_, acc.toList, rgW_vals hi, ?_⟩), rfl, q _ (I2.hok.fresh (Nat.le_refl _))⟩
  · rw [rgW_len, sizeLine_eq]; omega
  · (rw [Array.toArray_toList]; exact IsTup.new _ _)
theorem pe_lstRn (hc : X.calm = true) (hg : Gl X "list") (hm : X.mg "list" = none) (he : PRn X e te) (na : starEach [e] X.env = (false, eval e X.env) :: starEach [] X.env := by rfl) :
    PE X (.Call (.Name "list" p) [e] [] pos) (fun σ H Q => te σ H fun i c n H1 => n ≤ 1000000 ∧ ∀ q, H1 q = none → Q (.ref q) (upd H1 q (.lst (rgW i c n)))) := by
  refine ⟨fun pinsQ s σ H Q I h => ?_⟩
  refine Call_ (ld_blt I hg hm boot_list (PyProof.Rows.callWith_type1 (args_cons (thn (he pinsQ s σ H _ I h) fun x s1 ⟨r, a, b, c, t, u, v, n, H1, ex, hr, hsm, hsz, I1, ok, q⟩ => args_nil ?_) na) na))
  subst ex
  refine call_list_range (n := n) (I1.ok.hd hc) hr hsm hsz (by omega) fun h' tk acc c' hk e' hi => ?_
  refine ⟨.ref s1.heap.objs.size, upd H1 s1.heap.objs.size (.lst (rgW a c n)), I1.laid hk (Nat.le_refl _) (show ObjOk X.prog X.w _ _ _ (.lst (rgW a c n)) from ⟨?_, acc.toList, c', rgW_vals hi, ?_⟩), rfl, q _ (I1.hok.fresh (Nat.le_refl _))⟩
  · rw [rgW_len, sizeLine_eq]; omega
  · (rw [Array.toArray_toList]; exact e')
end
def rgI (i c : Int) (n : Nat) : List PV := (List.range n).map fun (k : Nat) => PV.int (i + (k : Int) * c)
theorem rgI_up (i : Int) (n : Nat) : rangeP i n = rgI i 1 n := by unfold rangeP rgI; simp
theorem rgI_down (i : Int) (n : Nat) : rangeD i n = rgI i (-1) n := by
  unfold rangeD rgI
  (refine List.map_congr_left fun k _ => ?_)
  congr 1
  omega
theorem rgI_len (i c : Int) (n : Nat) : (rgI i c n).length = n := by unfold rgI; rw [List.length_map, List.length_range]
theorem rgI_rep {K : PySem.W.Frag} {ct : Ct} {H : Hp} {A M : List Addr} (i c : Int) : ∀ l : List Nat, RepL K ct H A M (l.map fun (k : Nat) => PV.int (i + (k : Int) * c)) (l.map fun (k : Nat) => V.int (i + (k : Int) * c))
  | [] => .nil
  | k :: r => .cons (Rep.int_iff.mpr rfl) (rgI_rep i c r)
structure JR (ct : Ct) (X : Cx) (e : Expr) (f : FA) : Prop where
  pr : PRn X e (fun σ H Q => ∃ G env S v S', Good X.K ct G σ H env S ∧ f env S = .ok (v, S') ∧ ∀ i c n H' A', Post G.A H A' H' → StoOk X.K ct H' A' G.M S' → v = rgI i c n → Q i c n H')
theorem PRn.imp {X : Cx} {e : Expr} {t t' : L2.St → Hp → (Int → Int → Nat → Hp → Prop) → Prop} (h : PRn X e t) (i : ∀ σ H Q, t' σ H Q → t σ H Q) : PRn X e t' := fun pins s σ H Q I q => h pins s σ H Q I (i σ H Q q)
section
variable {ct : Ct} {X : Cx} {a b c : Expr} {fa : FA} {p pos : Pos}
theorem jr_range1 (hm : X.mg "range" = none) (h : JA ct X [a] fa) (hg : Gl X "range" := by rfl) (hs : starEach [a] X.env = [(false, eval a X.env)] := by rfl) : JR ct X (.Call (.Name "range" p) [a] [] pos) (iR1 fa) := by
  refine ⟨(prn_1 hg hm h.pa hs).imp fun σ H R q => ?_⟩
  obtain ⟨G, env, S, v, S', g, h1, q⟩ := q
  obtain ⟨⟨x, S1⟩, e1, h1⟩ := Res.bind_ok h1
  refine ⟨G, env, S, x, S1, g, e1, fun vs H1 A1 p1 s1 r1 => ?_⟩
  dsimp only at h1
  split at h1
  · rename_i j
    split at h1
    · rename_i hb
      cases h1
      obtain ⟨v, rfl, rv⟩ := r1.one
      exact ⟨j, by rw [Rep.int_iff.mp rv], hb, q _ _ _ H1 A1 p1 s1 (rgI_up _ _)⟩
    · cases h1
  · cases h1
theorem jr_range2 (hm : X.mg "range" = none) (h : JA ct X [a, b] fa) (hg : Gl X "range" := by rfl) (hs : starEach [a, b] X.env = [(false, eval a X.env), (false, eval b X.env)] := by rfl) (hs2 : starEach [b] X.env = [(false, eval b X.env)] := by rfl) : JR ct X (.Call (.Name "range" p) [a, b] [] pos) (iR2 fa) := by
  refine ⟨(prn_2 hg hm h.pa hs hs2).imp fun σ H R q => ?_⟩
  obtain ⟨G, env, S, v, S', g, h1, q⟩ := q
  obtain ⟨⟨x, S1⟩, e1, h1⟩ := Res.bind_ok h1
  refine ⟨G, env, S, x, S1, g, e1, fun vs H1 A1 p1 s1 r1 => ?_⟩
  dsimp only at h1
  split at h1
  · rename_i i j
    split at h1
    · rename_i hb
      cases h1
      rw [Bool.and_eq_true] at hb
      obtain ⟨v, w, rfl, rv, rw'⟩ := r1.two
      exact ⟨i, j, by rw [Rep.int_iff.mp rv, Rep.int_iff.mp rw'], hb.1, hb.2, q _ _ _ H1 A1 p1 s1 (rgI_up _ _)⟩
    · cases h1
  · cases h1
theorem jr_range3 (hm : X.mg "range" = none) (h : JA ct X [a, b, c] fa) (hg : Gl X "range" := by rfl) (hs : starEach [a, b, c] X.env = (false, eval a X.env) :: starEach [b, c] X.env := by rfl) (hpl : (backTo pos (starEach [b, c] X.env)).any (·.1) = false := by rfl) : JR ct X (.Call (.Name "range" p) [a, b, c] [] pos) (iR3 fa) := by
  refine ⟨(prn_3 hg hm h.pa hs hpl).imp fun σ H R q => ?_⟩
  obtain ⟨G, env, S, v, S', g, h1, q⟩ := q
  obtain ⟨⟨x, S1⟩, e1, h1⟩ := Res.bind_ok h1
  refine ⟨G, env, S, x, S1, g, e1, fun vs H1 A1 p1 s1 r1 => ?_⟩
  dsimp only at h1
  split at h1
  · rename_i i j c
    split at h1
    · rename_i hb
      cases h1
      obtain ⟨hc, hb1, hb2⟩ := hb
      subst hc
      obtain ⟨v, w, z, rfl, rv, rw', rz⟩ := r1.three
      exact ⟨i, j, by rw [Rep.int_iff.mp rv, Rep.int_iff.mp rw', Rep.int_iff.mp rz], hb1, hb2, q _ _ _ H1 A1 p1 s1 (rgI_down _ _)⟩
    · cases h1
  · cases h1
end
def eTR (it : FA) : FE := fun env S => (it env S).bind fun x => if x.1.length ≤ 1000000 then .ok (.tup x.1, x.2) else .err
def eLR (it : FA) : FE := fun env S => (it env S).bind fun x => if x.1.length ≤ 1000000 then .ok (.lst x.1, x.2) else .err
section
variable {ct : Ct} {X : Cx} {e : Expr} {it : FA} {p pos : Pos}
theorem je_tupR (hm : X.mg "tuple" = none) (h : JR ct X e it) (hc : X.calm = true := by rfl) (hg : Gl X "tuple" := by rfl) (na : starEach [e] X.env = (false, eval e X.env) :: starEach [] X.env := by rfl) : JE ct X (.Call (.Name "tuple" p) [e] [] pos) (eTR it) := by
  refine ⟨(pe_tupRn hc hg hm h.pr na).imp fun σ H Q q => ?_⟩
  obtain ⟨G, env, S, v, S', g, h1, q⟩ := q
  obtain ⟨⟨x, S1⟩, e1, h1⟩ := Res.bind_ok h1
  dsimp only at h1
  split at h1
  · rename_i hz
    cases h1
    refine ⟨G, env, S, x, _, g, e1, fun i c n H1 A1 p1 s1 ex => ⟨by rw [ex, rgI_len] at hz; exact hz, fun p np => ?_⟩⟩
    have g1 := g.post p1 s1
    have r1 : RepL X.K ct H1 A1 G.M x (rgW i c n) := by rw [ex]; exact rgI_rep i c _
    exact q _ _ A1 (p1.trans (Post.grow g1.bs.nodup (same_new np))) (s1.grow g1.bs.nodup (same_new np)) (Rep.new_tup r1 np g1.inA g1.bs.inM g1.bs.nodup)
  · cases h1
theorem jf_lstR (hm : X.mg "list" = none) (h : JR ct X e it) (hc : X.calm = true := by rfl) (hg : Gl X "list" := by rfl) (na : starEach [e] X.env = (false, eval e X.env) :: starEach [] X.env := by rfl) : JF ct X (.Call (.Name "list" p) [e] [] pos) (eLR it) := by
  refine ⟨(pe_lstRn hc hg hm h.pr na).imp fun σ H Q q => ?_⟩
  obtain ⟨G, env, S, v, S', g, h1, q⟩ := q
  obtain ⟨⟨x, S1⟩, e1, h1⟩ := Res.bind_ok h1
  dsimp only at h1
  split at h1
  · rename_i hz
    cases h1
    refine ⟨G, env, S, x, _, g, e1, fun i c n H1 A1 p1 s1 ex => ⟨by rw [ex, rgI_len] at hz; exact hz, fun p np => ?_⟩⟩
    have r1 : RepL X.K ct H1 A1 G.M x (rgW i c n) := by rw [ex]; exact rgI_rep i c _
    obtain ⟨k1, k2, k3, k4, k5⟩ := fresh_lst g p1 s1 r1 np
    exact q p _ A1 k1 k2 k3 k4 k5
  · cases h1
end
end J
set_option Elab.async false
set_option linter.all false
set_option maxRecDepth 100000
/-! J: the pure end of a law that asks `all([right(vat(script, k)) for k in range(max(lo, min(len(script), hi)))])`. -/
namespace J
open PySem L2
theorem sSeq_nx {a b : FS} {env e : J.Env} {S S1 : Sto} (h : a env S = .ok (.nx e S1)) : sSeq a b env S = b e S1 := by unfold sSeq; rw [h]; rfl
theorem sSeq_rt {a b : FS} {env : J.Env} {S S1 : Sto} {v : PV} (h : a env S = .ok (.rt v S1)) : sSeq a b env S = .ok (.rt v S1) := by unfold sSeq; rw [h]; rfl
theorem sSet_ok {i : Nat} {a : FE} {env : J.Env} {S S1 : Sto} {v : PV} (h : a env S = .ok (v, S1)) : sSet i a env S = .ok (.nx (env.set i (.val v)) S1) := by unfold sSet; rw [h]; rfl
theorem sOwn_ok {i : Nat} {a : FE} {env : J.Env} {S S1 : Sto} {v : PV} (h : a env S = .ok (v, S1)) : sOwn i a env S = .ok (.nx (env.set i (.own v)) S1) := by unfold sOwn; rw [h]; rfl
theorem sRet_ok {a : FE} {env : J.Env} {S S1 : Sto} {v : PV} (h : a env S = .ok (v, S1)) : sRet a env S = .ok (.rt v S1) := by unfold sRet; rw [h]; rfl
theorem eCall_ok {f : List PV → Sto → Res (PV × Sto)} {a : FA} {env : J.Env} {S S1 S2 : Sto} {xs : List PV} {v : PV} (h : a env S = .ok (xs, S1)) (k : f xs S1 = .ok (v, S2)) : eCall f a env S = .ok (v, S2) := by unfold eCall; rw [h]; exact k
theorem eOp_ok {op : PV → PV → Option PV} {a b : FE} {env : J.Env} {S S1 S2 : Sto} {x y z : PV} (h : a env S = .ok (x, S1)) (k : b env S1 = .ok (y, S2)) (e : op x y = some z) : eOp op a b env S = .ok (z, S2) := by
  unfold eOp; rw [h]; show (b env S1).bind _ = _; rw [k]; show (ofO (op x y)).bind _ = _; rw [e]; rfl
theorem aCons_ok {a : FE} {r : FA} {env : J.Env} {S S1 S2 : Sto} {x : PV} {y : List PV} (h : a env S = .ok (x, S1)) (k : r env S1 = .ok (y, S2)) : aCons a r env S = .ok (x :: y, S2) := by
  unfold aCons
  rw [h]
  show (r env S1).bind _ = _
  rw [k]
  rfl
theorem runF_rt {n : Nat} {F : FS} {args : List PV} {S S1 : Sto} {v : PV} (h : F (env0 n args) S = .ok (.rt v S1)) : runF n F args S = .ok (v, S1) := by unfold runF; rw [h]
theorem sFor_ok {it : FA} {g : GN} {b : FS} {env : J.Env} {S S1 : Sto} {xs : List PV} {r : Res Fl} (h : it env S = .ok (xs, S1)) (k : forL g b xs env S1 = r) : sFor it g b env S = r := by unfold sFor; rw [h]; exact k
theorem forL_nx {g : GN} {b : FS} {x : PV} {xs : List PV} {env e e' : J.Env} {S S' : Sto} (h : g x env = some e) (k : b e S = .ok (.nx e' S')) : forL g b (x :: xs) env S = forL g b xs e' S' := by
  rw [forL, h]
  show (b e S).bind _ = _
  rw [k]
  rfl
theorem bls_true : ∀ m : Nat, bls (List.replicate m (PV.bl true)) = some (List.replicate m true)
  | 0 => rfl
  | m + 1 => by rw [List.replicate_succ, bls, bls_true m]; rfl
theorem iR1_eq {f : FA} {env : J.Env} {S S1 : Sto} {j : Int} (h : f env S = .ok ([.int j], S1)) (b : bdI j = true) : iR1 f env S = .ok (rangeP 0 j.toNat, S1) := by
  unfold iR1
  rw [h]
  simp only [Res.bind]
  rw [if_pos b]
theorem range_ok {f : FA} {env : J.Env} {S : Sto} {m : Nat} (hm : m ≤ 5) (h : f env S = .ok ([.int m], S)) : iR1 f env S = .ok ((List.range' 0 m).map fun (i : Nat) => PV.int (i : Int), S) := by
  have hr : rangeP 0 ((m : Int)).toNat = (List.range' 0 m).map fun (i : Nat) => PV.int (i : Int) := by
    unfold rangeP
    rw [List.range_eq_range']
    simp
  have hb : bdI (m : Int) = true := by
    have hc : m = 0 ∨ m = 1 ∨ m = 2 ∨ m = 3 ∨ m = 4 ∨ m = 5 := by omega
    rcases hc with z | z | z | z | z | z <;> (subst z; decide +kernel)
  rw [iR1_eq h hb, hr]
theorem lc_eq {vs : List Nat} {it : FA} {g : GN} {t : FT} {e : FE} {env : J.Env} {S S1 S2 : Sto} {xs ys : List PV} (h : it env S = .ok (xs, S1)) (hl : xs.length ≤ 1000000) (k : lcL g t e xs (wipeE env vs) S1 = .ok (ys, S2)) : eLc vs it g t e env S = .ok (.lst ys, S2) := by
  unfold eLc
  rw [h]
  show (if xs.length ≤ 1000000 then _ else _) = _
  rw [if_pos hl, k]
  rfl
theorem un_eq {op : PV → Option PV} {a : FE} {env : J.Env} {S S1 : Sto} {x z : PV} (h : a env S = .ok (x, S1)) (k : op x = some z) : eUn op a env S = .ok (z, S1) := by
  unfold eUn
  rw [h]
  show (ofO (op x)).bind _ = _
  rw [k]
  rfl
theorem all_true (m : Nat) : pAll (.lst (List.replicate m (PV.bl true))) = some (.bl true) := by
  unfold pAll
  dsimp only
  rw [bls_true]
  simp
theorem lap_ok {ns : List Int} {Each : FE} (each : ∀ (k : Nat), k < 10 → ∀ S : Sto, ∃ S', Each [.val (.scr ns), .val (.int k)] S = .ok (.bl true, S')) : ∀ (m k : Nat) (S : Sto), m + k ≤ 10 → ∃ S', lcL (gN 1) tT Each ((List.range' k m).map fun (i : Nat) => PV.int (i : Int)) [.val (.scr ns), .un] S = .ok ((List.replicate m (PV.bl true)), S')
  | 0, k, S, _ => ⟨S, rfl⟩
  | m + 1, k, S, h => by
    obtain ⟨S1, h1⟩ := each k (by omega) S
    obtain ⟨S2, h2⟩ := lap_ok each m (k + 1) S1 (by omega)
    refine ⟨S2, ?_⟩
    rw [List.range'_succ, List.map_cons, lcL, List.replicate_succ]
    have g : gN 1 (PV.int (k : Int)) [.val (.scr ns), .un] = some [.val (.scr ns), .val (.int k)] := rfl
    simp only [g, ofO, Res.bind, tT, if_true, h1, h2]
theorem many_ok (ns : List Int) (lo hi : Nat) (hl : lo ≤ hi) : ∃ m : Nat, m ≤ hi ∧ eB pMax2 (aCons (eC (PV.int lo)) (aCons (eB pMin2 (aCons (eUn pLen (eV 0)) (aCons (eC (PV.int hi)) aNil))) aNil)) [.val (.scr ns), .un] [] = .ok (.int m, []) := by
  by_cases h4 : (hi : Int) < ns.length
  · have h5 : hi < ns.length := by omega
    by_cases h2 : lo < hi
    · exact ⟨hi, by omega, by simp [eB, aCons, aNil, eUn, eV, eC, pLen, pMin2, pMax2, ofO, Res.bind, h5, h2]⟩
    · exact ⟨lo, by omega, by simp [eB, aCons, aNil, eUn, eV, eC, pLen, pMin2, pMax2, ofO, Res.bind, h5, h2]⟩
  · have h5 : ¬ hi < ns.length := by omega
    by_cases h2 : lo < ns.length
    · exact ⟨ns.length, by omega, by simp [eB, aCons, aNil, eUn, eV, eC, pLen, pMin2, pMax2, ofO, Res.bind, h5, h2]⟩
    · exact ⟨lo, by omega, by simp [eB, aCons, aNil, eUn, eV, eC, pLen, pMin2, pMax2, ofO, Res.bind, h5, h2]⟩
theorem law_all (ns : List Int) (lo hi : Nat) (hl : lo ≤ hi) (h5 : hi ≤ 5) {Each : FE} (each : ∀ (k : Nat), k < 10 → ∀ S : Sto, ∃ S', Each [.val (.scr ns), .val (.int k)] S = .ok (.bl true, S')) :
    ∃ S', runF 2 (sRet (eUn pAll (eLc [1] (iR1 (aCons (eB pMax2 (aCons (eC (PV.int lo)) (aCons (eB pMin2 (aCons (eUn pLen (eV 0)) (aCons (eC (PV.int hi)) aNil))) aNil))) aNil)) (gN 1) tT Each))) [.scr ns] [] = .ok (.bl true, S') := by
  obtain ⟨m, hm4, hm⟩ := many_ok ns lo hi hl
  obtain ⟨S', h⟩ := lap_ok each m 0 [] (by omega)
  refine ⟨S', runF_rt (sRet_ok (un_eq (lc_eq (range_ok (by omega) (aCons_ok hm rfl)) ?_ h) (all_true m)))⟩
  rw [List.length_map, List.length_range']
  omega
theorem each_of {ns : List Int} {right vat : List PV → Sto → Res (PV × Sto)} {Is : Sto → Nat → Prop} (hv : ∀ (k : Nat), k < 10 → ∀ S : Sto, ∃ S', vat [.scr ns, .int k] S = .ok (.obj S.length, S') ∧ Is S' S.length) (hr : ∀ (n : Nat) (S : Sto), Is S n → ∃ S', right [.obj n] S = .ok (.bl true, S')) (k : Nat) (hk : k < 10) (S : Sto) :
    ∃ S', eCall right (aCons (eCall vat (aCons (eV 0) (aCons (eV 1) aNil))) aNil) [.val (.scr ns), .val (.int k)] S = .ok (.bl true, S') := by
  obtain ⟨S1, h1, h2⟩ := hv k hk S
  obtain ⟨S2, h3⟩ := hr _ _ h2
  exact ⟨S2, eCall_ok (aCons_ok (eCall_ok (xs := [.scr ns, .int k]) rfl h1) rfl) h3⟩
/-! what is looked at behind a run -/
def chkL (r : Res Fl) : Option (PV × Sto) := match r with
  | .ok (.rt v S) => some (v, S)
  | _ => none
def chk (r : Res Fl) : Option (Option Slot × Nat × Sto) := match r with
  | .ok (.nx e S) => some (e[0]?, e.length, S)
  | _ => none
theorem chk_ok {r : Res Fl} {x : Option Slot} {m : Nat} {S : Sto} (h : chk r = some (x, m, S)) : ∃ e, r = .ok (.nx e S) ∧ e[0]? = x ∧ e.length = m := by
  unfold chk at h
  split at h
  · rename_i e S'
    simp only [Option.some.injEq, Prod.mk.injEq] at h
    obtain ⟨h1, h2, rfl⟩ := h
    exact ⟨e, rfl, h1, h2⟩
  · cases h
theorem chkL_ok {r : Res Fl} {v : PV} {S : Sto} (h : chkL r = some (v, S)) : r = .ok (.rt v S) := by
  unfold chkL at h
  split at h
  · rename_i v' S'
    simp only [Option.some.injEq, Prod.mk.injEq] at h
    obtain ⟨rfl, rfl⟩ := h
    rfl
  · cases h
end J
set_option Elab.async false
set_option linter.all false
set_option maxRecDepth 100000
set_option maxHeartbeats 0
namespace K60
open PySem PySem.Spec PyProof.Rows L2 J
def top (i : Nat) : Stmt := PySem.Challenge.pw_wordshapes_k60_whole_centers.main.body.getD i (.Pass ⟨0, 0, 0, 0⟩)
abbrev s_l_vat_of : Stmt := top 18
abbrev s_beads_of : Stmt := top 11
abbrev s_trimmed : Stmt := top 9
abbrev s_shape_of_beads : Stmt := top 12
abbrev s_without_ribbons : Stmt := top 13
abbrev s_is_number : Stmt := top 6
abbrev s_is_shape : Stmt := top 7
abbrev s_check_shape : Stmt := top 8
abbrev s_check_ribbons : Stmt := top 14
abbrev s_center : Stmt := top 16
abbrev s_l_sip : Stmt := top 19
abbrev s_l_dip : Stmt := top 20
abbrev s_l_forms : Stmt := top 21
abbrev s_l_form : Stmt := top 22
abbrev s_l_tilted : Stmt := top 23
abbrev s_l_boxes : Stmt := top 24
abbrev s_l_corner : Stmt := top 26
abbrev s_l_is_square_at : Stmt := top 27
abbrev s_l_is_beside : Stmt := top 28
abbrev s_l_is_ribbon : Stmt := top 25
abbrev s_l_inner_forms : Stmt := top 29
abbrev s_l_cut : Stmt := top 30
abbrev s_l_worn : Stmt := top 31
abbrev s_l_has_hook : Stmt := top 32
abbrev s_ribbons : Stmt := top 15
abbrev s_l_great_right : Stmt := top 33
abbrev s_l_right : Stmt := top 34
abbrev s_law : Stmt := top 35
/-! ### the pure functions -/
def F_l_vat_of : FS := (sSeq (sPar 2 3 (aCons (eIf (tV (eOp pLt (eV 1) (eUn pLen (eV 0)))) (eIx (eV 0) (eV 1)) (eC (.int 0))) (aCons (eOp pAdd (eC (.int 14009)) (eOp pMulB (eC (.int 60013)) (eV 1))) aNil))) (sSeq (sFor (iEn (aCons (eSl (eV 0) oNo (oSo (eC (.int 10)))) aNil)) (gT 2 (gNc (gN 4) (gNc (gN 5) gNn))) (sSet 3 (eOp pMod (eUn pInt (eOp pAdd (eOp pMulB (eV 3) (eOp pAdd (eC (.int 10007)) (eOp pMulB (eC (.int 74)) (eV 4)))) (eOp pMulB (eC (.int 37)) (eV 5)))) (eC (.int 2147482583))))) (sRet (eNew (aCons (eIf (tOrr (tV (eOp pLt (eV 2) (eC (.int 0)))) (tV (eOp pGe (eV 2) (eOp pPow (eC (.int 10)) (eC (.int 15)))))) (eUn pAbs (eV 2)) (eC (.int 0))) (aCons (eOp pMod (eUn pInt (eOp pAdd (eV 3) (eOp pMulB (eC (.int 25013)) (eV 2)))) (eC (.int 2147482583))) (aCons (eC (.int 0)) aNil)))))))
def f_l_vat_of : List PV → Sto → Res (PV × Sto) := runF 6 F_l_vat_of
def F_beads_of : FS := (sRet (eLc [1, 2] (iEn (aCons (eV 0) aNil)) (gT 2 (gNc (gN 1) (gNc (gN 2) gNn))) tT (eOp pSub (eOp pSub (eOp pAdd (eV 2) (eUn pLen (eV 0))) (eC (.int 1))) (eV 1))))
def f_beads_of : List PV → Sto → Res (PV × Sto) := runF 3 F_beads_of
def F_trimmed : FS := (sRet (eUn pTupC (eLc [1] (iSeq (eV 0)) (gN 1) (tV (eOp pGt (eV 1) (eC (.int 0)))) (eV 1))))
def f_trimmed : List PV → Sto → Res (PV × Sto) := runF 2 F_trimmed
def F_shape_of_beads : FS := (sSeq (sSet 1 (eUn pRev (eUn (pSrt .int) (eV 0)))) (sRet (eCall f_trimmed (aCons (eLc [2, 3] (iEn (aCons (eV 1) aNil)) (gT 2 (gNc (gN 2) (gNc (gN 3) gNn))) tT (eOp pAdd (eOp pAdd (eOp pSub (eV 3) (eUn pLen (eV 1))) (eC (.int 1))) (eV 2))) aNil))))
def f_shape_of_beads : List PV → Sto → Res (PV × Sto) := runF 4 F_shape_of_beads
def F_without_ribbons : FS := (sSeq (sParEF 3 4 (eCall f_beads_of (aCons (eV 0) aNil)) (eB pLst aNil)) (sSeq (sFor (iSeq (eV 3)) (gN 2) (sSeq (sSet 5 (eOp pSub (eV 2) (eV 1))) (sIf (tAn (tV (eOp pGe (eV 5) (eC (.int 0)))) (tV (eOp pNotIn (eV 5) (eV 3)))) (sSeq (sSet 6 (eUn pLen (eLc [7] (iSeq (eV 3)) (gN 7) (tV (eChain pLt pLt (eV 5) (eV 7) (eV 2))) (eV 7)))) (sApp 4 (eB pTup (aCons (eCall f_shape_of_beads (aCons (eLc [7] (iSeq (eV 3)) (gN 7) tT (eIf (tV (eOp pEq (eV 7) (eV 2))) (eV 5) (eV 7))) aNil)) (aCons (eV 6) aNil))))) sNext))) (sFrz 4 (sRet (eV 4)))))
def f_without_ribbons : List PV → Sto → Res (PV × Sto) := runF 8 F_without_ribbons
def F_is_number : FS := (sRet (eAnd (eUn (pIsT "int") (eV 0)) (eAnd (eUn pNot (eUn (pIsT "bool") (eV 0))) (eChain pLe pLe (eV 1) (eV 0) (eV 2)))))
def f_is_number : List PV → Sto → Res (PV × Sto) := runF 3 F_is_number
def F_is_shape : FS := (sSeq (sIf (tOrr (tNo (tV (eUn (pIsT "tuple") (eV 0)))) (tOrr (tV (eOp pGt (eUn pLen (eV 0)) (eV 1))) (tNo (tV (eUn pAll (eLc [3] (iSeq (eV 0)) (gN 3) tT (eCall f_is_number (aCons (eV 3) (aCons (eC (.int 1)) (aCons (eV 1) aNil)))))))))) (sRet (eC (.bl false))) sNext) (sRet (eAnd (eOp pLe (eUn pSum (eV 0)) (eV 1)) (eUn pAll (eLc [2] (iR1 (aCons (eOp pSub (eUn pLen (eV 0)) (eC (.int 1))) aNil)) (gN 2) tT (eOp pGe (eIx (eV 0) (eV 2)) (eIx (eV 0) (eOp pAdd (eV 2) (eC (.int 1))))))))))
def f_is_shape : List PV → Sto → Res (PV × Sto) := runF 4 F_is_shape
def F_check_shape : FS := (sIf (tNo (tV (eCall f_is_shape (aCons (eV 0) (aCons (eV 1) aNil))))) sX sNext)
def f_check_shape : List PV → Sto → Res (PV × Sto) := runF 2 F_check_shape
def F_check_ribbons : FS := (sSeq (sDrop (eCall f_check_shape (aCons (eV 0) (aCons (eC (.int 40)) aNil)))) (sIf (tNo (tV (eCall f_is_number (aCons (eV 1) (aCons (eC (.int 1)) (aCons (eC (.int 40)) aNil)))))) sX sNext))
def f_check_ribbons : List PV → Sto → Res (PV × Sto) := runF 2 F_check_ribbons
def F_center : FS := (sSeq (sDrop (eCall f_check_ribbons (aCons (eV 0) (aCons (eV 1) aNil)))) (sSeq (sSet 2 (eCall f_without_ribbons (aCons (eV 0) (aCons (eV 1) aNil)))) (sSeq (sWh 100 (tV (eOp pNe (eV 2) (eB pLst aNil))) (sSeq (sSet 0 (eIx (eIx (eV 2) (eC (.int 0))) (eC (.int 0)))) (sSet 2 (eCall f_without_ribbons (aCons (eV 0) (aCons (eV 1) aNil)))))) (sRet (eV 0)))))
def f_center : List PV → Sto → Res (PV × Sto) := runF 3 F_center
def F_l_sip : FS := (sSeq (sIf (tV (eOp pGt (eIx (eV 0) (eC (.int 0))) (eC (.int 0)))) (sSeq (sAsgG (eB pDivmod (aCons (eIx (eV 0) (eC (.int 0))) (aCons (eV 1) aNil))) (ggT 2 (ggCons (gSubO (eV 0) (eC (.int 0))) (ggCons (gOf (gN 3)) ggNil)))) (sRet (eV 3))) sNext) (sSeq (sAsgG (eOp pAdd (eIx (eV 0) (eC (.int 2))) (eC (.int 1))) (gSubO (eV 0) (eC (.int 2)))) (sSeq (sSet 2 (eOp pMod (eUn pInt (eOp pAdd (eIx (eV 0) (eC (.int 1))) (eOp pMulB (eC (.int 43013)) (eIx (eV 0) (eC (.int 2)))))) (eC (.int 2147482583)))) (sSeq (sAsgG (eOp pMod (eUn pInt (eOp pAdd (eOp pAdd (eOp pMulB (eV 2) (eOp pAdd (eOp pMod (eUn pInt (eV 2)) (eC (.int 10009))) (eC (.int 74017)))) (eOp pMulB (eC (.int 79)) (eIx (eV 0) (eC (.int 2))))) (eC (.int 41)))) (eC (.int 2147482583))) (gSubO (eV 0) (eC (.int 1)))) (sRet (eOp pMod (eOp pDiv (eUn pInt (eIx (eV 0) (eC (.int 1)))) (eC (.int 193))) (eV 1)))))))
def f_l_sip : List PV → Sto → Res (PV × Sto) := runF 4 F_l_sip
def F_l_dip : FS := (sRet (eIx (eV 1) (eCall f_l_sip (aCons (eV 0) (aCons (eUn pLen (eV 1)) aNil)))))
def f_l_dip : List PV → Sto → Res (PV × Sto) := runF 2 F_l_dip
def F_l_forms : FS := (sSeq (sParFE 2 3 (eB pLst aNil) (eB pLst (aCons (eB pTup (aCons (eB pTup aNil) (aCons (eV 0) aNil))) aNil))) (sSeq (sFor (iR1 (aCons (eV 0) aNil)) (gN 1) (sSeq (sSet 4 (eB pLst aNil)) (sSeq (sFor (iSeq (eV 3)) (gT 2 (gNc (gN 5) (gNc (gN 6) gNn))) (sIf (tV (eOp pEq (eV 6) (eC (.int 0)))) (sApp 2 (eV 5)) (sSeq (sSet 7 (eB pMin2 (aCons (eV 6) (aCons (eIf (tV (eOp pNe (eV 5) (eB pTup aNil))) (eIx (eV 5) (eUn pNeg (eC (.int 1)))) (eV 6)) aNil)))) (sSet 4 (eOp pAdd (eV 4) (eLc [8] (iR2 (aCons (eC (.int 1)) (aCons (eOp pAdd (eV 7) (eC (.int 1))) aNil))) (gN 8) tT (eB pTup (aCons (eOp pAdd (eV 5) (eB pTup (aCons (eV 8) aNil))) (aCons (eOp pSub (eV 6) (eV 8)) aNil))))))))) (sSet 3 (eV 4))))) (sRet (eUn pRev (eUn (pSrt (.seq .int)) (eOp pAdd (eO 2) (eLc [5, 6] (iSeq (eV 3)) (gT 2 (gNc (gN 5) (gNc (gN 6) gNn))) (tV (eOp pEq (eV 6) (eC (.int 0)))) (eV 5))))))))
def f_l_forms : List PV → Sto → Res (PV × Sto) := runF 9 F_l_forms
def F_l_form : FS := (sRet (eCall f_l_dip (aCons (eV 0) (aCons (eCall f_l_forms (aCons (eOp pAdd (eV 1) (eCall f_l_sip (aCons (eV 0) (aCons (eOp pAdd (eOp pSub (eV 2) (eV 1)) (eC (.int 1))) aNil)))) aNil)) aNil))))
def f_l_form : List PV → Sto → Res (PV × Sto) := runF 3 F_l_form
def F_l_tilted : FS := (sRet (eUn pTupC (eLc [1] (iR1 (aCons (eIf (tV (eOp pNe (eV 0) (eB pTup aNil))) (eIx (eV 0) (eC (.int 0))) (eC (.int 0))) aNil)) (gN 1) tT (eUn pLen (eLc [2] (iSeq (eV 0)) (gN 2) (tV (eOp pGt (eV 2) (eV 1))) (eV 2))))))
def f_l_tilted : List PV → Sto → Res (PV × Sto) := runF 3 F_l_tilted
def F_l_boxes : FS := (sSeq (sSet 2 (eB pLst aNil)) (sSeq (sFor (iR1 (aCons (eUn pLen (eV 0)) aNil)) (gN 3) (sSeq (sSet 4 (eIf (tV (eOp pLt (eV 3) (eUn pLen (eV 1)))) (eIx (eV 1) (eV 3)) (eC (.int 0)))) (sSet 2 (eOp pAdd (eV 2) (eLc [5] (iR2 (aCons (eV 4) (aCons (eIx (eV 0) (eV 3)) aNil))) (gN 5) tT (eB pTup (aCons (eV 3) (aCons (eV 5) aNil)))))))) (sRet (eV 2))))
def f_l_boxes : List PV → Sto → Res (PV × Sto) := runF 6 F_l_boxes
def F_l_corner : FS := (sRet (eB pTup (aCons (eOp pAdd (eIx (eV 0) (eC (.int 0))) (eC (.int 1))) (aCons (eOp pAdd (eIx (eV 0) (eC (.int 1))) (eC (.int 1))) aNil))))
def f_l_corner : List PV → Sto → Res (PV × Sto) := runF 1 F_l_corner
def F_l_is_square_at : FS := (sRet (eAnd (eOp pIn (eB pTup (aCons (eOp pAdd (eIx (eV 0) (eC (.int 0))) (eC (.int 1))) (aCons (eIx (eV 0) (eC (.int 1))) aNil))) (eV 1)) (eOp pIn (eB pTup (aCons (eIx (eV 0) (eC (.int 0))) (aCons (eOp pAdd (eIx (eV 0) (eC (.int 1))) (eC (.int 1))) aNil))) (eV 1))))
def f_l_is_square_at : List PV → Sto → Res (PV × Sto) := runF 2 F_l_is_square_at
def F_l_is_beside : FS := (sRet (eOp pNe (eLc [2] (iSeq (eV 1)) (gN 2) (tV (eOp pEq (eOp pAdd (eUn pAbs (eOp pSub (eIx (eV 2) (eC (.int 0))) (eIx (eV 0) (eC (.int 0))))) (eUn pAbs (eOp pSub (eIx (eV 2) (eC (.int 1))) (eIx (eV 0) (eC (.int 1)))))) (eC (.int 1)))) (eV 2)) (eB pLst aNil)))
def f_l_is_beside : List PV → Sto → Res (PV × Sto) := runF 3 F_l_is_beside
def F_l_is_ribbon : FS := (sSeq (sIf (tV (eOp pNe (eLc [4] (iSeq (eV 0)) (gN 4) (tAn (tV (eOp pIn (eCall f_l_corner (aCons (eV 4) aNil)) (eV 0))) (tV (eCall f_l_is_square_at (aCons (eV 4) (aCons (eV 0) aNil))))) (eV 4)) (eB pLst aNil))) (sRet (eC (.bl false))) sNext) (sSeq (sAsg (eB pTup (aCons (eB pLst aNil) (aCons (eSl (eV 0) oNo (oSo (eC (.int 1)))) aNil))) (gT 2 (gNc (gN 1) (gNc (gN 2) gNn)))) (sSeq (sWh 200 (tV (eOp pNe (eV 2) (eB pLst aNil))) (sSeq (sAsg (eB pTup (aCons (eOp pAdd (eV 1) (eV 2)) (aCons (eV 2) aNil))) (gT 2 (gNc (gN 1) (gNc (gN 3) gNn)))) (sSeq (sOwn 2 (eLc [4] (iSeq (eV 0)) (gN 4) (tAn (tV (eOp pNotIn (eV 4) (eV 1))) (tV (eCall f_l_is_beside (aCons (eV 4) (aCons (eV 3) aNil))))) (eV 4))) (sFrz 2 sNext)))) (sRet (eOp pEq (eUn pLen (eV 1)) (eUn pLen (eV 0)))))))
def f_l_is_ribbon : List PV → Sto → Res (PV × Sto) := runF 5 F_l_is_ribbon
def F_l_inner_forms : FS := (sSeq (sSet 2 (eB pLst (aCons (eB pTup aNil) aNil))) (sSeq (sFor (iR1 (aCons (eUn pLen (eV 0)) aNil)) (gN 3) (sSeq (sSet 4 (eB pLst aNil)) (sSeq (sFor (iSeq (eV 2)) (gN 5) (sSeq (sSet 6 (eB pMin3 (aCons (eIx (eV 0) (eV 3)) (aCons (eIf (tV (eOp pNe (eV 5) (eB pTup aNil))) (eIx (eV 5) (eUn pNeg (eC (.int 1)))) (eIx (eV 0) (eV 3))) (aCons (eOp pSub (eV 1) (eUn pSum (eV 5))) aNil))))) (sSet 4 (eOp pAdd (eV 4) (eLc [7] (iR1 (aCons (eOp pAdd (eV 6) (eC (.int 1))) aNil)) (gN 7) tT (eOp pAdd (eV 5) (eB pTup (aCons (eV 7) aNil)))))))) (sSet 2 (eV 4))))) (sRet (eLc [5] (iSeq (eV 2)) (gN 5) (tV (eOp pEq (eUn pSum (eV 5)) (eV 1))) (eUn pTupC (eLc [7] (iSeq (eV 5)) (gN 7) (tV (eOp pGt (eV 7) (eC (.int 0)))) (eV 7)))))))
def f_l_inner_forms : List PV → Sto → Res (PV × Sto) := runF 8 F_l_inner_forms
def F_l_cut : FS := (sSeq (sOwn 2 (eB pLst aNil)) (sSeq (sFor (iSeq (eIf (tV (eOp pLe (eV 1) (eUn pSum (eV 0)))) (eCall f_l_inner_forms (aCons (eV 0) (aCons (eOp pSub (eUn pSum (eV 0)) (eV 1)) aNil))) (eB pLst aNil))) (gN 3) (sSeq (sSet 4 (eCall f_l_boxes (aCons (eV 0) (aCons (eV 3) aNil)))) (sIf (tV (eCall f_l_is_ribbon (aCons (eV 4) aNil))) (sApp 2 (eB pTup (aCons (eV 3) (aCons (eOp pSub (eUn pSetLen (eLc [5] (iSeq (eV 4)) (gN 5) tT (eIx (eV 5) (eC (.int 0))))) (eC (.int 1))) aNil)))) sNext))) (sRet (eUn (pSrt (.two (.seq .int) .int)) (eO 2)))))
def f_l_cut : List PV → Sto → Res (PV × Sto) := runF 6 F_l_cut
def F_l_worn : FS := (sSeq (sFor (iR1 (aCons (eOp pAdd (eOp pDiv (eUn pSum (eV 1)) (eV 2)) (eC (.int 1))) aNil)) (gN 3) (sSeq (sSet 4 (eCall f_l_cut (aCons (eV 1) (aCons (eV 2) aNil)))) (sIf (tV (eOp pNe (eV 4) (eB pLst aNil))) (sSet 1 (eIx (eCall f_l_dip (aCons (eV 0) (aCons (eV 4) aNil))) (eC (.int 0)))) sNext))) (sRet (eV 1)))
def f_l_worn : List PV → Sto → Res (PV × Sto) := runF 5 F_l_worn
def F_l_has_hook : FS := (sSeq (sSet 2 (eCall f_l_tilted (aCons (eV 0) aNil))) (sSeq (sFor (iSeq (eCall f_l_boxes (aCons (eV 0) (aCons (eB pTup aNil) aNil)))) (gT 2 (gNc (gN 3) (gNc (gN 4) gNn))) (sIf (tV (eOp pEq (eOp pMod (eUn pInt (eOp pSub (eOp pSub (eOp pAdd (eOp pSub (eIx (eV 0) (eV 3)) (eV 4)) (eIx (eV 2) (eV 4))) (eV 3)) (eC (.int 1)))) (eV 1)) (eC (.int 0)))) (sRet (eC (.bl true))) sNext)) (sRet (eC (.bl false)))))
def f_l_has_hook : List PV → Sto → Res (PV × Sto) := runF 5 F_l_has_hook
def F_ribbons : FS := (sSeq (sDrop (eCall f_check_ribbons (aCons (eV 0) (aCons (eV 1) aNil)))) (sRet (eUn pTupC (eUn (pSrt (.two (.seq .int) .int)) (eCall f_without_ribbons (aCons (eV 0) (aCons (eV 1) aNil)))))))
def f_ribbons : List PV → Sto → Res (PV × Sto) := runF 2 F_ribbons
def F_l_great_right : FS := (sSeq (sSet 1 (eB pTup aNil)) (sSeq (sFor (iR1 (aCons (eOp pAdd (eC (.int 2)) (eCall f_l_sip (aCons (eV 0) (aCons (eC (.int 5)) aNil)))) aNil)) (gN 2) (sSeq (sSet 5 (eB pMin2 (aCons (eOp pSub (eC (.int 40)) (eUn pSum (eV 1))) (aCons (eIf (tV (eOp pNe (eV 1) (eB pTup aNil))) (eIx (eV 1) (eUn pNeg (eC (.int 1)))) (eC (.int 11))) aNil)))) (sSet 1 (eOp pAdd (eV 1) (eIf (tV (eOp pGt (eV 5) (eC (.int 0)))) (eB pTup (aCons (eOp pAdd (eC (.int 1)) (eCall f_l_sip (aCons (eV 0) (aCons (eV 5) aNil)))) aNil)) (eB pTup aNil)))))) (sSeq (sSet 3 (eOp pAdd (eC (.int 2)) (eCall f_l_sip (aCons (eV 0) (aCons (eC (.int 9)) aNil))))) (sSeq (sSet 4 (eCall f_center (aCons (eV 1) (aCons (eV 3) aNil)))) (sSeq (sIf (tOrr (tV (eCall f_l_has_hook (aCons (eV 4) (aCons (eV 3) aNil)))) (tOrr (tV (eOp pNe (eOp pMod (eUn pInt (eOp pSub (eUn pSum (eV 1)) (eUn pSum (eV 4)))) (eV 3)) (eC (.int 0)))) (tV (eOp pNe (eCall f_center (aCons (eV 4) (aCons (eV 3) aNil))) (eV 4))))) (sRet (eC (.bl false))) sNext) (sRet (eOp pEq (eLc [6, 7] (iSeq (eCall f_ribbons (aCons (eV 1) (aCons (eV 3) aNil)))) (gT 2 (gNc (gN 6) (gNc (gN 7) gNn))) (tV (eOp pNe (eCall f_center (aCons (eV 6) (aCons (eV 3) aNil))) (eV 4))) (eV 6)) (eB pLst aNil))))))))
def f_l_great_right : List PV → Sto → Res (PV × Sto) := runF 8 F_l_great_right
def F_l_right : FS := (sSeq (sFor (iR1 (aCons (eC (.int 2)) aNil)) (gN 1) (sSeq (sPar 4 5 (aCons (eCall f_l_form (aCons (eV 0) (aCons (eC (.int 0)) (aCons (eC (.int 7)) aNil)))) (aCons (eOp pAdd (eC (.int 1)) (eCall f_l_sip (aCons (eV 0) (aCons (eC (.int 5)) aNil)))) aNil))) (sSeq (sSet 3 (eCall f_l_worn (aCons (eV 0) (aCons (eV 4) (aCons (eV 5) aNil))))) (sSeq (sIf (tV (eOp (pRpr false) (eB pLst (aCons (eCall f_center (aCons (eV 4) (aCons (eV 5) aNil))) (aCons (eCallP f_center swap2 (aCons (eV 5) (aCons (eV 4) aNil))) aNil))) (eB pLst (aCons (eV 3) (aCons (eV 3) aNil))))) (sRet (eC (.bl false))) sNext) (sSeq (sIf (tOrr (tV (eOp pNe (eCall f_l_worn (aCons (eV 0) (aCons (eV 4) (aCons (eV 5) aNil)))) (eV 3))) (tOrr (tV (eOp pNe (eCall f_center (aCons (eV 3) (aCons (eV 5) aNil))) (eV 3))) (tV (eCall f_l_has_hook (aCons (eV 3) (aCons (eV 5) aNil)))))) (sRet (eC (.bl false))) sNext) (sSeq (sIf (tOrr (tV (eOp pNe (eCall f_center (aCons (eCall f_l_tilted (aCons (eV 4) aNil)) (aCons (eV 5) aNil))) (eCall f_l_tilted (aCons (eV 3) aNil)))) (tV (eOp pNe (eCall f_center (aCons (eV 4) (aCons (eC (.int 1)) aNil))) (eB pTup aNil)))) (sRet (eC (.bl false))) sNext) (sIf (tV (eOp pNe (eCall f_center (aCons (eV 4) (aCons (eOp pAdd (eUn pSum (eV 4)) (eC (.int 1))) aNil))) (eV 4))) (sRet (eC (.bl false))) sNext))))))) (sSeq (sSet 2 (eTR (iR3 (aCons (eOp pAdd (eC (.int 1)) (eCall f_l_sip (aCons (eV 0) (aCons (eC (.int 8)) aNil)))) (aCons (eC (.int 0)) (aCons (eUn pNeg (eC (.int 1))) aNil)))))) (sRet (eAnd (eCall f_l_great_right (aCons (eV 0) aNil)) (eAnd (eOp pEq (eCall f_center (aCons (eV 2) (aCons (eC (.int 2)) aNil))) (eV 2)) (eOp pEq (eCall f_center (aCons (eB pTup aNil) (aCons (eC (.int 40)) aNil))) (eB pTup aNil)))))))
def f_l_right : List PV → Sto → Res (PV × Sto) := runF 6 F_l_right
def F_law : FS := (sRet (eUn pAll (eLc [1] (iR1 (aCons (eB pMax2 (aCons (eC (.int 2)) (aCons (eB pMin2 (aCons (eUn pLen (eV 0)) (aCons (eC (.int 5)) aNil))) aNil))) aNil)) (gN 1) tT (eCall f_l_right (aCons (eCall f_l_vat_of (aCons (eV 0) (aCons (eV 1) aNil))) aNil)))))
def f_law : List PV → Sto → Res (PV × Sto) := runF 2 F_law
/-! ### facts of the top -/
structure Facts (K : PySem.W.Frag) (mg : Str → Option Value) : Prop where
  f_abs : mg "abs" = none
  f_all : mg "all" = none
  f_bool : mg "bool" = none
  f_divmod : mg "divmod" = none
  f_enumerate : mg "enumerate" = none
  f_int : mg "int" = none
  f_isinstance : mg "isinstance" = none
  f_len : mg "len" = none
  f_max : mg "max" = none
  f_min : mg "min" = none
  f_range : mg "range" = none
  f_repr : mg "repr" = none
  f_set : mg "set" = none
  f_sorted : mg "sorted" = none
  f_sum : mg "sum" = none
  f_tuple : mg "tuple" = none
  c_MOST_BOXES : ∃ t, mg "MOST_BOXES" = some (.int 40 t)
  d_l_vat_of : Def1 K mg "_law_vat_of" s_l_vat_of
  d_beads_of : Def1 K mg "beads_of" s_beads_of
  d_trimmed : Def1 K mg "trimmed" s_trimmed
  d_shape_of_beads : Def1 K mg "shape_of_beads" s_shape_of_beads
  d_without_ribbons : Def1 K mg "without_ribbons" s_without_ribbons
  d_is_number : Def1 K mg "is_number" s_is_number
  d_is_shape : Def1 K mg "is_shape" s_is_shape
  d_check_shape : Def1 K mg "check_shape" s_check_shape
  d_check_ribbons : Def1 K mg "check_ribbons" s_check_ribbons
  d_center : Def1 K mg "center" s_center
  d_l_sip : Def1 K mg "_law_sip" s_l_sip
  d_l_dip : Def1 K mg "_law_dip" s_l_dip
  d_l_forms : Def1 K mg "_law_forms" s_l_forms
  d_l_form : Def1 K mg "_law_form" s_l_form
  d_l_tilted : Def1 K mg "_law_tilted" s_l_tilted
  d_l_boxes : Def1 K mg "_law_boxes" s_l_boxes
  d_l_corner : Def1 K mg "_law_corner" s_l_corner
  d_l_is_square_at : Def1 K mg "_law_is_square_at" s_l_is_square_at
  d_l_is_beside : Def1 K mg "_law_is_beside" s_l_is_beside
  d_l_is_ribbon : Def1 K mg "_law_is_ribbon" s_l_is_ribbon
  d_l_inner_forms : Def1 K mg "_law_inner_forms" s_l_inner_forms
  d_l_cut : Def1 K mg "_law_cut" s_l_cut
  d_l_worn : Def1 K mg "_law_worn" s_l_worn
  d_l_has_hook : Def1 K mg "_law_has_hook" s_l_has_hook
  d_ribbons : Def1 K mg "ribbons" s_ribbons
  d_l_great_right : Def1 K mg "_law_great_right" s_l_great_right
  d_l_right : Def1 K mg "_law_right" s_l_right
  d_law : Def1 K mg "law" s_law
theorem sc_l_vat_of : FnScope ["_law_script", "_law_turn", "_law_cell", "_law_blended", "_law_at", "_law_each"] ["_law_script", "_law_turn"] (defScope s_l_vat_of) := ⟨rfl, rfl, rfl, by decide +kernel, rfl, by decide +kernel, by decide +kernel⟩
theorem pb_l_vat_of : PosB "_law_vat_of" s_l_vat_of ["_law_script", "_law_turn"] := fun _ _ _ _ _ _ us hl => match us, hl with | [_, _], _ => rfl
theorem sc_beads_of : FnScope ["shape", "row", "part"] ["shape"] (defScope s_beads_of) := ⟨rfl, rfl, rfl, by decide +kernel, rfl, by decide +kernel, by decide +kernel⟩
theorem pb_beads_of : PosB "beads_of" s_beads_of ["shape"] := fun _ _ _ _ _ _ us hl => match us, hl with | [_], _ => rfl
theorem b_beads_of_0 : BlkOk ["shape", "row", "part"] (defScope s_beads_of) { kind := PySem.ScopeKind.function, names := [ (PySem.Str.ofString ".0", PySem.NameKind.local), (PySem.Str.ofString "row", PySem.NameKind.local), (PySem.Str.ofString "part", PySem.NameKind.local), (PySem.Str.ofString "len", PySem.NameKind.globalImplicit), (PySem.Str.ofString "shape", PySem.NameKind.free)], isGenerator := false, isCoroutine := false, more := [] : PySem.Scope } [("row", 1), ("part", 2)] := ⟨rfl, by decide +kernel, by decide +kernel, by decide +kernel, by decide +kernel⟩
theorem sc_trimmed : FnScope ["numbers", "number"] ["numbers"] (defScope s_trimmed) := ⟨rfl, rfl, rfl, by decide +kernel, rfl, by decide +kernel, by decide +kernel⟩
theorem pb_trimmed : PosB "trimmed" s_trimmed ["numbers"] := fun _ _ _ _ _ _ us hl => match us, hl with | [_], _ => rfl
theorem b_trimmed_0 : BlkOk ["numbers", "number"] (defScope s_trimmed) { kind := PySem.ScopeKind.function, names := [(PySem.Str.ofString ".0", PySem.NameKind.local), (PySem.Str.ofString "number", PySem.NameKind.local)], isGenerator := false, isCoroutine := false, more := [] : PySem.Scope } [("number", 1)] := ⟨rfl, by decide +kernel, by decide +kernel, by decide +kernel, by decide +kernel⟩
theorem sc_shape_of_beads : FnScope ["beads", "ordered", "row", "bead"] ["beads"] (defScope s_shape_of_beads) := ⟨rfl, rfl, rfl, by decide +kernel, rfl, by decide +kernel, by decide +kernel⟩
theorem pb_shape_of_beads : PosB "shape_of_beads" s_shape_of_beads ["beads"] := fun _ _ _ _ _ _ us hl => match us, hl with | [_], _ => rfl
theorem b_shape_of_beads_0 : BlkOk ["beads", "ordered", "row", "bead"] (defScope s_shape_of_beads) { kind := PySem.ScopeKind.function, names := [ (PySem.Str.ofString ".0", PySem.NameKind.local), (PySem.Str.ofString "row", PySem.NameKind.local), (PySem.Str.ofString "bead", PySem.NameKind.local), (PySem.Str.ofString "len", PySem.NameKind.globalImplicit), (PySem.Str.ofString "ordered", PySem.NameKind.free)], isGenerator := false, isCoroutine := false, more := [] : PySem.Scope } [("row", 2), ("bead", 3)] := ⟨rfl, by decide +kernel, by decide +kernel, by decide +kernel, by decide +kernel⟩
theorem sc_without_ribbons : FnScope ["shape", "size", "bead", "beads", "found", "goal", "height", "other"] ["shape", "size"] (defScope s_without_ribbons) := ⟨rfl, rfl, rfl, by decide +kernel, rfl, by decide +kernel, by decide +kernel⟩
theorem pb_without_ribbons : PosB "without_ribbons" s_without_ribbons ["shape", "size"] := fun _ _ _ _ _ _ us hl => match us, hl with | [_, _], _ => rfl
theorem b_without_ribbons_0 : BlkOk ["shape", "size", "bead", "beads", "found", "goal", "height", "other"] (defScope s_without_ribbons) { kind := PySem.ScopeKind.function, names := [ (PySem.Str.ofString ".0", PySem.NameKind.local), (PySem.Str.ofString "other", PySem.NameKind.local), (PySem.Str.ofString "bead", PySem.NameKind.free), (PySem.Str.ofString "goal", PySem.NameKind.free)], isGenerator := false, isCoroutine := false, more := [] : PySem.Scope } [("other", 7)] := ⟨rfl, by decide +kernel, by decide +kernel, by decide +kernel, by decide +kernel⟩
theorem b_without_ribbons_1 : BlkOk ["shape", "size", "bead", "beads", "found", "goal", "height", "other"] (defScope s_without_ribbons) { kind := PySem.ScopeKind.function, names := [ (PySem.Str.ofString ".0", PySem.NameKind.local), (PySem.Str.ofString "other", PySem.NameKind.local), (PySem.Str.ofString "bead", PySem.NameKind.free), (PySem.Str.ofString "goal", PySem.NameKind.free)], isGenerator := false, isCoroutine := false, more := [] : PySem.Scope } [("other", 7)] := ⟨rfl, by decide +kernel, by decide +kernel, by decide +kernel, by decide +kernel⟩
theorem sc_is_number : FnScope ["value", "low", "high"] ["value", "low", "high"] (defScope s_is_number) := ⟨rfl, rfl, rfl, by decide +kernel, rfl, by decide +kernel, by decide +kernel⟩
theorem pb_is_number : PosB "is_number" s_is_number ["value", "low", "high"] := fun _ _ _ _ _ _ us hl => match us, hl with | [_, _, _], _ => rfl
theorem sc_is_shape : FnScope ["value", "most", "place", "part"] ["value", "most"] (defScope s_is_shape) := ⟨rfl, rfl, rfl, by decide +kernel, rfl, by decide +kernel, by decide +kernel⟩
theorem pb_is_shape : PosB "is_shape" s_is_shape ["value", "most"] := fun _ _ _ _ _ _ us hl => match us, hl with | [_, _], _ => rfl
theorem b_is_shape_0 : BlkOk ["value", "most", "place", "part"] (defScope s_is_shape) { kind := PySem.ScopeKind.function, names := [ (PySem.Str.ofString ".0", PySem.NameKind.local), (PySem.Str.ofString "part", PySem.NameKind.local), (PySem.Str.ofString "is_number", PySem.NameKind.globalImplicit), (PySem.Str.ofString "most", PySem.NameKind.free)], isGenerator := false, isCoroutine := false, more := [] : PySem.Scope } [("part", 3)] := ⟨rfl, by decide +kernel, by decide +kernel, by decide +kernel, by decide +kernel⟩
theorem b_is_shape_1 : BlkOk ["value", "most", "place", "part"] (defScope s_is_shape) { kind := PySem.ScopeKind.function, names := [ (PySem.Str.ofString ".0", PySem.NameKind.local), (PySem.Str.ofString "place", PySem.NameKind.local), (PySem.Str.ofString "value", PySem.NameKind.free)], isGenerator := false, isCoroutine := false, more := [] : PySem.Scope } [("place", 2)] := ⟨rfl, by decide +kernel, by decide +kernel, by decide +kernel, by decide +kernel⟩
theorem sc_check_shape : FnScope ["value", "most"] ["value", "most"] (defScope s_check_shape) := ⟨rfl, rfl, rfl, by decide +kernel, rfl, by decide +kernel, by decide +kernel⟩
theorem pb_check_shape : PosB "check_shape" s_check_shape ["value", "most"] := fun _ _ _ _ _ _ us hl => match us, hl with | [_, _], _ => rfl
theorem sc_check_ribbons : FnScope ["shape", "size"] ["shape", "size"] (defScope s_check_ribbons) := ⟨rfl, rfl, rfl, by decide +kernel, rfl, by decide +kernel, by decide +kernel⟩
theorem pb_check_ribbons : PosB "check_ribbons" s_check_ribbons ["shape", "size"] := fun _ _ _ _ _ _ us hl => match us, hl with | [_, _], _ => rfl
theorem sc_center : FnScope ["shape", "size", "rest"] ["shape", "size"] (defScope s_center) := ⟨rfl, rfl, rfl, by decide +kernel, rfl, by decide +kernel, by decide +kernel⟩
theorem pb_center : PosB "center" s_center ["shape", "size"] := fun _ _ _ _ _ _ us hl => match us, hl with | [_, _], _ => rfl
theorem kp_center : KwP "center" s_center ["shape", "size"] ["size", "shape"] swap2 := fun _ _ _ _ _ _ ws h => match ws, h with | [_, _], _ => rfl
theorem sc_l_sip : FnScope ["_law_vat", "_law_top", "_law_base", "_law_got"] ["_law_vat", "_law_top"] (defScope s_l_sip) := ⟨rfl, rfl, rfl, by decide +kernel, rfl, by decide +kernel, by decide +kernel⟩
theorem pb_l_sip : PosB "_law_sip" s_l_sip ["_law_vat", "_law_top"] := fun _ _ _ _ _ _ us hl => match us, hl with | [_, _], _ => rfl
theorem sc_l_dip : FnScope ["_law_vat", "_law_menu"] ["_law_vat", "_law_menu"] (defScope s_l_dip) := ⟨rfl, rfl, rfl, by decide +kernel, rfl, by decide +kernel, by decide +kernel⟩
theorem pb_l_dip : PosB "_law_dip" s_l_dip ["_law_vat", "_law_menu"] := fun _ _ _ _ _ _ us hl => match us, hl with | [_, _], _ => rfl
theorem sc_l_forms : FnScope ["_law_n", "_law_turn", "_law_found", "_law_line_here", "_law_later", "_law_head", "_law_left", "_law_top_here", "_law_part"] ["_law_n"] (defScope s_l_forms) := ⟨rfl, rfl, rfl, by decide +kernel, rfl, by decide +kernel, by decide +kernel⟩
theorem pb_l_forms : PosB "_law_forms" s_l_forms ["_law_n"] := fun _ _ _ _ _ _ us hl => match us, hl with | [_], _ => rfl
theorem b_l_forms_0 : BlkOk ["_law_n", "_law_turn", "_law_found", "_law_line_here", "_law_later", "_law_head", "_law_left", "_law_top_here", "_law_part"] (defScope s_l_forms) { kind := PySem.ScopeKind.function, names := [ (PySem.Str.ofString ".0", PySem.NameKind.local), (PySem.Str.ofString "_law_part", PySem.NameKind.local), (PySem.Str.ofString "_law_head", PySem.NameKind.free), (PySem.Str.ofString "_law_left", PySem.NameKind.free)], isGenerator := false, isCoroutine := false, more := [] : PySem.Scope } [("_law_part", 8)] := ⟨rfl, by decide +kernel, by decide +kernel, by decide +kernel, by decide +kernel⟩
theorem b_l_forms_1 : BlkOk ["_law_n", "_law_turn", "_law_found", "_law_line_here", "_law_later", "_law_head", "_law_left", "_law_top_here", "_law_part"] (defScope s_l_forms) { kind := PySem.ScopeKind.function, names := [ (PySem.Str.ofString ".0", PySem.NameKind.local), (PySem.Str.ofString "_law_head", PySem.NameKind.local), (PySem.Str.ofString "_law_left", PySem.NameKind.local)], isGenerator := false, isCoroutine := false, more := [] : PySem.Scope } [("_law_head", 5), ("_law_left", 6)] := ⟨rfl, by decide +kernel, by decide +kernel, by decide +kernel, by decide +kernel⟩
theorem sc_l_form : FnScope ["_law_vat", "_law_least", "_law_top"] ["_law_vat", "_law_least", "_law_top"] (defScope s_l_form) := ⟨rfl, rfl, rfl, by decide +kernel, rfl, by decide +kernel, by decide +kernel⟩
theorem pb_l_form : PosB "_law_form" s_l_form ["_law_vat", "_law_least", "_law_top"] := fun _ _ _ _ _ _ us hl => match us, hl with | [_, _, _], _ => rfl
theorem sc_l_tilted : FnScope ["_law_form_here", "_law_k", "_law_part"] ["_law_form_here"] (defScope s_l_tilted) := ⟨rfl, rfl, rfl, by decide +kernel, rfl, by decide +kernel, by decide +kernel⟩
theorem pb_l_tilted : PosB "_law_tilted" s_l_tilted ["_law_form_here"] := fun _ _ _ _ _ _ us hl => match us, hl with | [_], _ => rfl
theorem b_l_tilted_0 : BlkOk ["_law_form_here", "_law_k", "_law_part"] (defScope s_l_tilted) { kind := PySem.ScopeKind.function, names := [ (PySem.Str.ofString ".0", PySem.NameKind.local), (PySem.Str.ofString "_law_k", PySem.NameKind.cell), (PySem.Str.ofString "len", PySem.NameKind.globalImplicit), (PySem.Str.ofString "_law_form_here", PySem.NameKind.free)], isGenerator := false, isCoroutine := false, more := [] : PySem.Scope } [("_law_k", 1)] := ⟨rfl, by decide +kernel, by decide +kernel, by decide +kernel, by decide +kernel⟩
theorem b_l_tilted_1 : BlkOk ["_law_form_here", "_law_k", "_law_part"] ({ kind := PySem.ScopeKind.function, names := [ (PySem.Str.ofString ".0", PySem.NameKind.local), (PySem.Str.ofString "_law_k", PySem.NameKind.cell), (PySem.Str.ofString "len", PySem.NameKind.globalImplicit), (PySem.Str.ofString "_law_form_here", PySem.NameKind.cell)], isGenerator := false, isCoroutine := false, more := [] : PySem.Scope }) { kind := PySem.ScopeKind.function, names := [ (PySem.Str.ofString ".0", PySem.NameKind.local), (PySem.Str.ofString "_law_part", PySem.NameKind.local), (PySem.Str.ofString "_law_k", PySem.NameKind.free)], isGenerator := false, isCoroutine := false, more := [] : PySem.Scope } [("_law_part", 2)] := ⟨rfl, by decide +kernel, by decide +kernel, by decide +kernel, by decide +kernel⟩
theorem sc_l_boxes : FnScope ["_law_form_here", "_law_less", "_law_found", "_law_i", "_law_low", "_law_j"] ["_law_form_here", "_law_less"] (defScope s_l_boxes) := ⟨rfl, rfl, rfl, by decide +kernel, rfl, by decide +kernel, by decide +kernel⟩
theorem pb_l_boxes : PosB "_law_boxes" s_l_boxes ["_law_form_here", "_law_less"] := fun _ _ _ _ _ _ us hl => match us, hl with | [_, _], _ => rfl
theorem b_l_boxes_0 : BlkOk ["_law_form_here", "_law_less", "_law_found", "_law_i", "_law_low", "_law_j"] (defScope s_l_boxes) { kind := PySem.ScopeKind.function, names := [ (PySem.Str.ofString ".0", PySem.NameKind.local), (PySem.Str.ofString "_law_j", PySem.NameKind.local), (PySem.Str.ofString "_law_i", PySem.NameKind.free)], isGenerator := false, isCoroutine := false, more := [] : PySem.Scope } [("_law_j", 5)] := ⟨rfl, by decide +kernel, by decide +kernel, by decide +kernel, by decide +kernel⟩
theorem sc_l_corner : FnScope ["_law_box"] ["_law_box"] (defScope s_l_corner) := ⟨rfl, rfl, rfl, by decide +kernel, rfl, by decide +kernel, by decide +kernel⟩
theorem pb_l_corner : PosB "_law_corner" s_l_corner ["_law_box"] := fun _ _ _ _ _ _ us hl => match us, hl with | [_], _ => rfl
theorem sc_l_is_square_at : FnScope ["_law_box", "_law_boxes_here"] ["_law_box", "_law_boxes_here"] (defScope s_l_is_square_at) := ⟨rfl, rfl, rfl, by decide +kernel, rfl, by decide +kernel, by decide +kernel⟩
theorem pb_l_is_square_at : PosB "_law_is_square_at" s_l_is_square_at ["_law_box", "_law_boxes_here"] := fun _ _ _ _ _ _ us hl => match us, hl with | [_, _], _ => rfl
theorem sc_l_is_beside : FnScope ["_law_box", "_law_others", "_law_each"] ["_law_box", "_law_others"] (defScope s_l_is_beside) := ⟨rfl, rfl, rfl, by decide +kernel, rfl, by decide +kernel, by decide +kernel⟩
theorem pb_l_is_beside : PosB "_law_is_beside" s_l_is_beside ["_law_box", "_law_others"] := fun _ _ _ _ _ _ us hl => match us, hl with | [_, _], _ => rfl
theorem b_l_is_beside_0 : BlkOk ["_law_box", "_law_others", "_law_each"] (defScope s_l_is_beside) { kind := PySem.ScopeKind.function, names := [ (PySem.Str.ofString ".0", PySem.NameKind.local), (PySem.Str.ofString "_law_each", PySem.NameKind.local), (PySem.Str.ofString "abs", PySem.NameKind.globalImplicit), (PySem.Str.ofString "_law_box", PySem.NameKind.free)], isGenerator := false, isCoroutine := false, more := [] : PySem.Scope } [("_law_each", 2)] := ⟨rfl, by decide +kernel, by decide +kernel, by decide +kernel, by decide +kernel⟩
theorem sc_l_is_ribbon : FnScope ["_law_boxes_here", "_law_seen_here", "_law_more", "_law_last", "_law_box"] ["_law_boxes_here"] (defScope s_l_is_ribbon) := ⟨rfl, rfl, rfl, by decide +kernel, rfl, by decide +kernel, by decide +kernel⟩
theorem pb_l_is_ribbon : PosB "_law_is_ribbon" s_l_is_ribbon ["_law_boxes_here"] := fun _ _ _ _ _ _ us hl => match us, hl with | [_], _ => rfl
theorem b_l_is_ribbon_0 : BlkOk ["_law_boxes_here", "_law_seen_here", "_law_more", "_law_last", "_law_box"] (defScope s_l_is_ribbon) { kind := PySem.ScopeKind.function, names := [ (PySem.Str.ofString ".0", PySem.NameKind.local), (PySem.Str.ofString "_law_box", PySem.NameKind.local), (PySem.Str.ofString "_law_corner", PySem.NameKind.globalImplicit), (PySem.Str.ofString "_law_is_square_at", PySem.NameKind.globalImplicit), (PySem.Str.ofString "_law_boxes_here", PySem.NameKind.free)], isGenerator := false, isCoroutine := false, more := [] : PySem.Scope } [("_law_box", 4)] := ⟨rfl, by decide +kernel, by decide +kernel, by decide +kernel, by decide +kernel⟩
theorem b_l_is_ribbon_1 : BlkOk ["_law_boxes_here", "_law_seen_here", "_law_more", "_law_last", "_law_box"] (defScope s_l_is_ribbon) { kind := PySem.ScopeKind.function, names := [ (PySem.Str.ofString ".0", PySem.NameKind.local), (PySem.Str.ofString "_law_box", PySem.NameKind.local), (PySem.Str.ofString "_law_is_beside", PySem.NameKind.globalImplicit), (PySem.Str.ofString "_law_last", PySem.NameKind.free), (PySem.Str.ofString "_law_seen_here", PySem.NameKind.free)], isGenerator := false, isCoroutine := false, more := [] : PySem.Scope } [("_law_box", 4)] := ⟨rfl, by decide +kernel, by decide +kernel, by decide +kernel, by decide +kernel⟩
theorem sc_l_inner_forms : FnScope ["_law_form_here", "_law_total", "_law_found", "_law_i", "_law_later", "_law_head", "_law_top_here", "_law_part"] ["_law_form_here", "_law_total"] (defScope s_l_inner_forms) := ⟨rfl, rfl, rfl, by decide +kernel, rfl, by decide +kernel, by decide +kernel⟩
theorem pb_l_inner_forms : PosB "_law_inner_forms" s_l_inner_forms ["_law_form_here", "_law_total"] := fun _ _ _ _ _ _ us hl => match us, hl with | [_, _], _ => rfl
theorem b_l_inner_forms_0 : BlkOk ["_law_form_here", "_law_total", "_law_found", "_law_i", "_law_later", "_law_head", "_law_top_here", "_law_part"] (defScope s_l_inner_forms) { kind := PySem.ScopeKind.function, names := [ (PySem.Str.ofString ".0", PySem.NameKind.local), (PySem.Str.ofString "_law_part", PySem.NameKind.local), (PySem.Str.ofString "_law_head", PySem.NameKind.free)], isGenerator := false, isCoroutine := false, more := [] : PySem.Scope } [("_law_part", 7)] := ⟨rfl, by decide +kernel, by decide +kernel, by decide +kernel, by decide +kernel⟩
theorem b_l_inner_forms_1 : BlkOk ["_law_form_here", "_law_total", "_law_found", "_law_i", "_law_later", "_law_head", "_law_top_here", "_law_part"] (defScope s_l_inner_forms) { kind := PySem.ScopeKind.function, names := [ (PySem.Str.ofString ".0", PySem.NameKind.local), (PySem.Str.ofString "_law_head", PySem.NameKind.local), (PySem.Str.ofString "sum", PySem.NameKind.globalImplicit), (PySem.Str.ofString "tuple", PySem.NameKind.globalImplicit), (PySem.Str.ofString "_law_total", PySem.NameKind.free)], isGenerator := false, isCoroutine := false, more := [] : PySem.Scope } [("_law_head", 5)] := ⟨rfl, by decide +kernel, by decide +kernel, by decide +kernel, by decide +kernel⟩
theorem b_l_inner_forms_2 : BlkOk ["_law_form_here", "_law_total", "_law_found", "_law_i", "_law_later", "_law_head", "_law_top_here", "_law_part"] ({ kind := PySem.ScopeKind.function, names := [ (PySem.Str.ofString ".0", PySem.NameKind.local), (PySem.Str.ofString "_law_head", PySem.NameKind.local), (PySem.Str.ofString "sum", PySem.NameKind.globalImplicit), (PySem.Str.ofString "tuple", PySem.NameKind.globalImplicit), (PySem.Str.ofString "_law_total", PySem.NameKind.cell)], isGenerator := false, isCoroutine := false, more := [] : PySem.Scope }) { kind := PySem.ScopeKind.function, names := [(PySem.Str.ofString ".0", PySem.NameKind.local), (PySem.Str.ofString "_law_part", PySem.NameKind.local)], isGenerator := false, isCoroutine := false, more := [] : PySem.Scope } [("_law_part", 7)] := ⟨rfl, by decide +kernel, by decide +kernel, by decide +kernel, by decide +kernel⟩
theorem sc_l_cut : FnScope ["_law_form_here", "_law_many", "_law_found", "_law_less", "_law_boxes_here", "_law_box"] ["_law_form_here", "_law_many"] (defScope s_l_cut) := ⟨rfl, rfl, rfl, by decide +kernel, rfl, by decide +kernel, by decide +kernel⟩
theorem pb_l_cut : PosB "_law_cut" s_l_cut ["_law_form_here", "_law_many"] := fun _ _ _ _ _ _ us hl => match us, hl with | [_, _], _ => rfl
theorem b_l_cut_0 : BlkOk ["_law_form_here", "_law_many", "_law_found", "_law_less", "_law_boxes_here", "_law_box"] (defScope s_l_cut) { kind := PySem.ScopeKind.function, names := [(PySem.Str.ofString ".0", PySem.NameKind.local), (PySem.Str.ofString "_law_box", PySem.NameKind.local)], isGenerator := false, isCoroutine := false, more := [] : PySem.Scope } [("_law_box", 5)] := ⟨rfl, by decide +kernel, by decide +kernel, by decide +kernel, by decide +kernel⟩
theorem sc_l_worn : FnScope ["_law_vat", "_law_form_here", "_law_many", "_law_turn", "_law_some"] ["_law_vat", "_law_form_here", "_law_many"] (defScope s_l_worn) := ⟨rfl, rfl, rfl, by decide +kernel, rfl, by decide +kernel, by decide +kernel⟩
theorem pb_l_worn : PosB "_law_worn" s_l_worn ["_law_vat", "_law_form_here", "_law_many"] := fun _ _ _ _ _ _ us hl => match us, hl with | [_, _, _], _ => rfl
theorem sc_l_has_hook : FnScope ["_law_form_here", "_law_many", "_law_tilted_here", "_law_i", "_law_j"] ["_law_form_here", "_law_many"] (defScope s_l_has_hook) := ⟨rfl, rfl, rfl, by decide +kernel, rfl, by decide +kernel, by decide +kernel⟩
theorem pb_l_has_hook : PosB "_law_has_hook" s_l_has_hook ["_law_form_here", "_law_many"] := fun _ _ _ _ _ _ us hl => match us, hl with | [_, _], _ => rfl
theorem sc_ribbons : FnScope ["shape", "size"] ["shape", "size"] (defScope s_ribbons) := ⟨rfl, rfl, rfl, by decide +kernel, rfl, by decide +kernel, by decide +kernel⟩
theorem pb_ribbons : PosB "ribbons" s_ribbons ["shape", "size"] := fun _ _ _ _ _ _ us hl => match us, hl with | [_, _], _ => rfl
theorem sc_l_great_right : FnScope ["_law_vat", "_law_form_here", "_law_turn", "_law_many", "_law_found", "_law_room", "_law_less", "_law_height"] ["_law_vat"] (defScope s_l_great_right) := ⟨rfl, rfl, rfl, by decide +kernel, rfl, by decide +kernel, by decide +kernel⟩
theorem pb_l_great_right : PosB "_law_great_right" s_l_great_right ["_law_vat"] := fun _ _ _ _ _ _ us hl => match us, hl with | [_], _ => rfl
theorem b_l_great_right_0 : BlkOk ["_law_vat", "_law_form_here", "_law_turn", "_law_many", "_law_found", "_law_room", "_law_less", "_law_height"] (defScope s_l_great_right) { kind := PySem.ScopeKind.function, names := [ (PySem.Str.ofString ".0", PySem.NameKind.local), (PySem.Str.ofString "_law_less", PySem.NameKind.local), (PySem.Str.ofString "_law_height", PySem.NameKind.local), (PySem.Str.ofString "center", PySem.NameKind.globalImplicit), (PySem.Str.ofString "_law_found", PySem.NameKind.free), (PySem.Str.ofString "_law_many", PySem.NameKind.free)], isGenerator := false, isCoroutine := false, more := [] : PySem.Scope } [("_law_less", 6), ("_law_height", 7)] := ⟨rfl, by decide +kernel, by decide +kernel, by decide +kernel, by decide +kernel⟩
theorem sc_l_right : FnScope ["_law_vat", "_law_turn", "_law_stair", "_law_due", "_law_form_here", "_law_many"] ["_law_vat"] (defScope s_l_right) := ⟨rfl, rfl, rfl, by decide +kernel, rfl, by decide +kernel, by decide +kernel⟩
theorem pb_l_right : PosB "_law_right" s_l_right ["_law_vat"] := fun _ _ _ _ _ _ us hl => match us, hl with | [_], _ => rfl
theorem sc_law : FnScope ["_law_script", "_law_turn"] ["_law_script"] (defScope s_law) := ⟨rfl, rfl, rfl, by decide +kernel, rfl, by decide +kernel, by decide +kernel⟩
theorem b_law_0 : BlkOk ["_law_script", "_law_turn"] (defScope s_law) { kind := PySem.ScopeKind.function, names := [ (PySem.Str.ofString ".0", PySem.NameKind.local), (PySem.Str.ofString "_law_turn", PySem.NameKind.local), (PySem.Str.ofString "_law_right", PySem.NameKind.globalImplicit), (PySem.Str.ofString "_law_vat_of", PySem.NameKind.globalImplicit), (PySem.Str.ofString "_law_script", PySem.NameKind.free)], isGenerator := false, isCoroutine := false, more := [] : PySem.Scope } [("_law_turn", 1)] := ⟨rfl, by decide +kernel, by decide +kernel, by decide +kernel, by decide +kernel⟩
section
variable {P : Program} {w : World} {base : Heap} {K : PySem.W.Frag} {mg : Str → Option Value}
abbrev ct0 : Ct := fun _ => none
theorem ok_l_vat_of (Z : Facts K mg) : DefOk ct0 P w K mg base "_law_vat_of" s_l_vat_of 1 ["_law_script", "_law_turn"] f_l_vat_of := by
  exact def_ok Z.d_l_vat_of sc_l_vat_of fun _ _ _ _ _ _ _ hr hG => (jss_cons (js_par 2 3 sc_l_vat_of.nd (ja_cons (je_if (jt_lt (je_jb (je_var 1)) (je_jb (je_len Z.f_len (je_jb (je_var 0))))) (je_ix hr (je_jb (je_var 0)) (je_var 1)) je_int) (ja_cons (je_add (je_jb je_int) (je_jb (je_mulB (je_jb je_int) (je_jb (je_var 1))))) ja_nil))) (jss_cons (js_for (ji_enum Z.f_enumerate (ja_cons (je_sl (je_jb (je_var 0)) jo_none (jo_some je_int)) ja_nil)) (jn_tup rfl (jns_cons (jn_name 4 sc_l_vat_of.nd) (jns_cons (jn_name 5 sc_l_vat_of.nd) jns_nil))) (jss_one (js_set 3 sc_l_vat_of.nd (je_mod (je_jb (je_intC Z.f_int (je_jb (je_add (je_jb (je_mulB (je_jb (je_var 3)) (je_jb (je_add (je_jb je_int) (je_jb (je_mulB (je_jb je_int) (je_jb (je_var 4)))))))) (je_jb (je_mulB (je_jb je_int) (je_jb (je_var 5)))))))) (je_jb je_int))))) (jss_one (js_ret (je_new (ja_cons (je_if (jt_w (jw_or (jt_lt (je_jb (je_var 2)) (je_jb je_int)) (jw_or1 (jt_ge (je_jb (je_var 2)) (je_jb (je_pow (je_jb je_int) (je_jb je_int))))))) (je_abs Z.f_abs (je_jb (je_var 2))) je_int) (ja_cons (je_mod (je_jb (je_intC Z.f_int (je_jb (je_add (je_jb (je_var 3)) (je_jb (je_mulB (je_jb je_int) (je_jb (je_var 2)))))))) (je_jb je_int)) (ja_cons je_int ja_nil))))))))
theorem ok_beads_of (Z : Facts K mg) : DefOk ct0 P w K mg base "beads_of" s_beads_of 1 ["shape"] f_beads_of := by
  exact def_ok Z.d_beads_of sc_beads_of fun _ _ _ _ _ _ _ hr hG => (jss_one (js_ret (jf_je (jf_lc [("row", 1), ("part", 2)] sc_beads_of.nd (ji_enum Z.f_enumerate (ja_cons (je_var 0) ja_nil)) b_beads_of_0 (fun _ _ _ _ _ => (jn_tup rfl (jns_cons (jn_name 1 sc_beads_of.nd) (jns_cons (jn_name 2 sc_beads_of.nd) jns_nil)))) (fun _ _ _ _ _ => jts_nil) (fun _ _ _ _ _ => (je_sub (je_jb (je_sub (je_jb (je_add (je_jb (je_var 2)) (je_jb (je_len Z.f_len (je_jb (je_var 0)))))) (je_jb je_int))) (je_jb (je_var 1))))))))
theorem ok_trimmed (Z : Facts K mg) : DefOk ct0 P w K mg base "trimmed" s_trimmed 1 ["numbers"] f_trimmed := by
  exact def_ok Z.d_trimmed sc_trimmed fun _ _ _ _ _ _ _ hr hG => (jss_one (js_ret (je_tuple Z.f_tuple (je_jb (jf_je (jf_lc [("number", 1)] sc_trimmed.nd (ji_seq (je_var 0)) b_trimmed_0 (fun _ _ _ _ _ => (jn_name 1 sc_trimmed.nd)) (fun _ _ _ _ _ => (jts_one (jt_gt (je_jb (je_var 1)) (je_jb je_int)))) (fun _ _ _ _ _ => (je_var 1))))))))
theorem ok_shape_of_beads (Z : Facts K mg) : DefOk ct0 P w K mg base "shape_of_beads" s_shape_of_beads 2 ["beads"] f_shape_of_beads := by
  have D_trimmed := ok_trimmed (P := P) (w := w) (base := base) Z
  exact def_ok Z.d_shape_of_beads sc_shape_of_beads fun _ _ _ _ _ _ _ hr hG => (jss_cons (js_set 1 sc_shape_of_beads.nd (je_revL (je_jb (jf_je (jf_sorted .int hr Z.f_sorted (je_jb (je_var 0))))))) (jss_one (js_ret (je_call (D_trimmed.mono (by decide)) hr hG pb_trimmed (ja_cons (jf_je (jf_lc [("row", 2), ("bead", 3)] sc_shape_of_beads.nd (ji_enum Z.f_enumerate (ja_cons (je_var 1) ja_nil)) b_shape_of_beads_0 (fun _ _ _ _ _ => (jn_tup rfl (jns_cons (jn_name 2 sc_shape_of_beads.nd) (jns_cons (jn_name 3 sc_shape_of_beads.nd) jns_nil)))) (fun _ _ _ _ _ => jts_nil) (fun _ _ _ _ _ => (je_add (je_jb (je_add (je_jb (je_sub (je_jb (je_var 3)) (je_jb (je_len Z.f_len (je_jb (je_var 1)))))) (je_jb je_int))) (je_jb (je_var 2)))))) ja_nil) rfl (al_cons al_nil)))))
theorem ok_without_ribbons (Z : Facts K mg) : DefOk ct0 P w K mg base "without_ribbons" s_without_ribbons 3 ["shape", "size"] f_without_ribbons := by
  have D_beads_of := ok_beads_of (P := P) (w := w) (base := base) Z
  have D_shape_of_beads := ok_shape_of_beads (P := P) (w := w) (base := base) Z
  exact def_ok Z.d_without_ribbons sc_without_ribbons fun _ _ _ _ _ _ _ hr hG => (jss_cons (js_parEF 3 4 sc_without_ribbons.nd (je_call (D_beads_of.mono (by decide)) hr hG pb_beads_of (ja_cons (je_var 0) ja_nil) rfl (al_cons al_nil)) (jf_lst ja_nil)) (jss_cons (js_for (ji_seq (je_var 3)) (jn_name 2 sc_without_ribbons.nd) (jss_cons (js_set 5 sc_without_ribbons.nd (je_sub (je_jb (je_var 2)) (je_jb (je_var 1)))) (jss_one (js_if (jt_w (jw_and (jt_ge (je_jb (je_var 5)) (je_jb je_int)) (jw_and1 (jt_notIn hr (je_var 5) (je_jb (je_var 3)))))) (jss_cons (js_set 6 sc_without_ribbons.nd (je_len Z.f_len (je_jb (jf_je (jf_lc [("other", 7)] sc_without_ribbons.nd (ji_seq (je_var 3)) b_without_ribbons_0 (fun _ _ _ _ _ => (jn_name 7 sc_without_ribbons.nd)) (fun _ _ _ _ _ => (jts_one (jt_chain op_lt op_lt (je_var 5) (je_var 7) (je_var 2)))) (fun _ _ _ _ _ => (je_var 7))))))) (jss_one (js_append 4 (je_tup (ja_cons (je_call (D_shape_of_beads.mono (by decide)) hr hG pb_shape_of_beads (ja_cons (jf_je (jf_lc [("other", 7)] sc_without_ribbons.nd (ji_seq (je_var 3)) b_without_ribbons_1 (fun _ _ _ _ _ => (jn_name 7 sc_without_ribbons.nd)) (fun _ _ _ _ _ => jts_nil) (fun _ _ _ _ _ => (je_if (jt_eq hr (je_jb (je_var 7)) (je_jb (je_var 2))) (je_var 5) (je_var 7))))) ja_nil) rfl (al_cons al_nil)) (ja_cons (je_var 6) ja_nil)))))) jss_nil)))) (jss_one (js_frz 4 (js_ret (je_var 4))))))
theorem ok_is_number (Z : Facts K mg) : DefOk ct0 P w K mg base "is_number" s_is_number 1 ["value", "low", "high"] f_is_number := by
  exact def_ok Z.d_is_number sc_is_number fun _ _ _ _ _ _ _ hr hG => (jss_one (js_ret (je_and (je_isT (T := "int") Z.f_isinstance Z.f_int (je_var 0)) (je_and (je_not (je_isT (T := "bool") Z.f_isinstance Z.f_bool (je_var 0))) (je_one (je_chain op_le op_le (je_var 1) (je_var 0) (je_var 2)))))))
theorem ok_is_shape (Z : Facts K mg) : DefOk ct0 P w K mg base "is_shape" s_is_shape 2 ["value", "most"] f_is_shape := by
  have D_is_number := ok_is_number (P := P) (w := w) (base := base) Z
  exact def_ok Z.d_is_shape sc_is_shape fun _ _ _ _ _ _ _ hr hG => (jss_cons (js_if (jt_w (jw_or (jt_not (jt_val (je_isT (T := "tuple") Z.f_isinstance Z.f_tuple (je_var 0)))) (jw_or (jt_gt (je_jb (je_len Z.f_len (je_jb (je_var 0)))) (je_jb (je_var 1))) (jw_or1 (jt_not (jt_val (je_all Z.f_all (je_jb (jf_je (jf_lc [("part", 3)] sc_is_shape.nd (ji_seq (je_var 0)) b_is_shape_0 (fun _ _ _ _ _ => (jn_name 3 sc_is_shape.nd)) (fun _ _ _ _ _ => jts_nil) (fun _ _ _ _ _ => (je_call (D_is_number.mono (by decide)) hr hG pb_is_number (ja_cons (je_var 3) (ja_cons je_int (ja_cons (je_var 1) ja_nil))) rfl (al_cons (al_cons (al_cons al_nil))))))))))))))) (jss_one (js_ret je_bl)) jss_nil) (jss_one (js_ret (je_and (je_le (je_jb (je_sum Z.f_sum (je_jb (je_var 0)))) (je_jb (je_var 1))) (je_one (je_all Z.f_all (je_jb (jf_je (jf_lc [("place", 2)] sc_is_shape.nd (ji_range1 Z.f_range (ja_cons (je_sub (je_jb (je_len Z.f_len (je_jb (je_var 0)))) (je_jb je_int)) ja_nil)) b_is_shape_1 (fun _ _ _ _ _ => (jn_name 2 sc_is_shape.nd)) (fun _ _ _ _ _ => jts_nil) (fun _ _ _ _ _ => (je_ge (je_jb (je_ix hr (je_jb (je_var 0)) (je_var 2))) (je_jb (je_ix hr (je_jb (je_var 0)) (je_add (je_jb (je_var 2)) (je_jb je_int)))))))))))))))
theorem ok_check_shape (Z : Facts K mg) : DefOk ct0 P w K mg base "check_shape" s_check_shape 3 ["value", "most"] f_check_shape := by
  have D_is_shape := ok_is_shape (P := P) (w := w) (base := base) Z
  exact def_ok Z.d_check_shape sc_check_shape fun _ _ _ _ _ _ _ hr hG => (jss_one (js_if (jt_not (jt_val (je_call (D_is_shape.mono (by decide)) hr hG pb_is_shape (ja_cons (je_var 0) (ja_cons (je_var 1) ja_nil)) rfl (al_cons (al_cons al_nil))))) (jss_one js_never) jss_nil))
theorem ok_check_ribbons (Z : Facts K mg) : DefOk ct0 P w K mg base "check_ribbons" s_check_ribbons 4 ["shape", "size"] f_check_ribbons := by
  have D_is_number := ok_is_number (P := P) (w := w) (base := base) Z
  have D_check_shape := ok_check_shape (P := P) (w := w) (base := base) Z
  exact def_ok Z.d_check_ribbons sc_check_ribbons fun _ _ _ _ _ _ _ hr hG => (jss_cons (js_expr (je_call (D_check_shape.mono (by decide)) hr hG pb_check_shape (ja_cons (je_var 0) (ja_cons (je_globIx Z.c_MOST_BOXES) ja_nil)) rfl (al_cons (al_cons al_nil)))) (jss_one (js_if (jt_not (jt_val (je_call (D_is_number.mono (by decide)) hr hG pb_is_number (ja_cons (je_var 1) (ja_cons je_int (ja_cons (je_globIx Z.c_MOST_BOXES) ja_nil))) rfl (al_cons (al_cons (al_cons al_nil)))))) (jss_one js_never) jss_nil)))
theorem ok_center (Z : Facts K mg) : DefOk ct0 P w K mg base "center" s_center 5 ["shape", "size"] f_center := by
  have D_without_ribbons := ok_without_ribbons (P := P) (w := w) (base := base) Z
  have D_check_ribbons := ok_check_ribbons (P := P) (w := w) (base := base) Z
  exact def_ok Z.d_center sc_center fun _ _ _ _ _ _ _ hr hG => (jss_cons (js_expr (je_call (D_check_ribbons.mono (by decide)) hr hG pb_check_ribbons (ja_cons (je_var 0) (ja_cons (je_var 1) ja_nil)) rfl (al_cons (al_cons al_nil)))) (jss_cons (js_set 2 sc_center.nd (je_call (D_without_ribbons.mono (by decide)) hr hG pb_without_ribbons (ja_cons (je_var 0) (ja_cons (je_var 1) ja_nil)) rfl (al_cons (al_cons al_nil)))) (jss_cons (js_while 100 (jt_ne hr (je_jb (je_var 2)) (je_jb (jf_je (jf_lst ja_nil)))) (jss_cons (js_set 0 sc_center.nd (je_ix hr (je_jb (je_ix hr (je_jb (je_var 2)) je_int)) je_int)) (jss_one (js_set 2 sc_center.nd (je_call (D_without_ribbons.mono (by decide)) hr hG pb_without_ribbons (ja_cons (je_var 0) (ja_cons (je_var 1) ja_nil)) rfl (al_cons (al_cons al_nil))))))) (jss_one (js_ret (je_var 0))))))
theorem ok_l_sip (Z : Facts K mg) : DefOk ct0 P w K mg base "_law_sip" s_l_sip 1 ["_law_vat", "_law_top"] f_l_sip := by
  exact def_ok Z.d_l_sip sc_l_sip fun _ _ _ _ _ _ _ hr hG => (jss_cons (js_if (jt_gt (je_jb (je_ix hr (je_jb (je_var 0)) je_int)) (je_jb je_int)) (jss_cons (js_asgG (je_divmod Z.f_divmod (ja_cons (je_ix hr (je_jb (je_var 0)) je_int) (ja_cons (je_var 1) ja_nil))) (jg_tup rfl (jgs_cons (jg_sub (je_var 0) je_int) (jgs_cons (jg_n (jn_name 3 sc_l_sip.nd)) jgs_nil)))) (jss_one (js_ret (je_var 3)))) jss_nil) (jss_cons (js_asgG (je_add (je_jb (je_ix hr (je_jb (je_var 0)) je_int)) (je_jb je_int)) (jg_sub (je_var 0) je_int)) (jss_cons (js_set 2 sc_l_sip.nd (je_mod (je_jb (je_intC Z.f_int (je_jb (je_add (je_jb (je_ix hr (je_jb (je_var 0)) je_int)) (je_jb (je_mulB (je_jb je_int) (je_jb (je_ix hr (je_jb (je_var 0)) je_int)))))))) (je_jb je_int))) (jss_cons (js_asgG (je_mod (je_jb (je_intC Z.f_int (je_jb (je_add (je_jb (je_add (je_jb (je_mulB (je_jb (je_var 2)) (je_jb (je_add (je_jb (je_mod (je_jb (je_intC Z.f_int (je_jb (je_var 2)))) (je_jb je_int))) (je_jb je_int))))) (je_jb (je_mulB (je_jb je_int) (je_jb (je_ix hr (je_jb (je_var 0)) je_int)))))) (je_jb je_int))))) (je_jb je_int)) (jg_sub (je_var 0) je_int)) (jss_one (js_ret (je_mod (je_jb (je_div (je_jb (je_intC Z.f_int (je_jb (je_ix hr (je_jb (je_var 0)) je_int)))) (je_jb je_int))) (je_jb (je_var 1)))))))))
theorem ok_l_dip (Z : Facts K mg) : DefOk ct0 P w K mg base "_law_dip" s_l_dip 2 ["_law_vat", "_law_menu"] f_l_dip := by
  have D_l_sip := ok_l_sip (P := P) (w := w) (base := base) Z
  exact def_ok Z.d_l_dip sc_l_dip fun _ _ _ _ _ _ _ hr hG => (jss_one (js_ret (je_ix hr (je_jb (je_var 1)) (je_call (D_l_sip.mono (by decide)) hr hG pb_l_sip (ja_cons (je_var 0) (ja_cons (je_len Z.f_len (je_jb (je_var 1))) ja_nil)) rfl (al_cons (al_cons al_nil))))))
theorem ok_l_forms (Z : Facts K mg) : DefOk ct0 P w K mg base "_law_forms" s_l_forms 1 ["_law_n"] f_l_forms := by
  exact def_ok Z.d_l_forms sc_l_forms fun _ _ _ _ _ _ _ hr hG => (jss_cons (js_parFE 2 3 sc_l_forms.nd (jf_lst ja_nil) (jf_je (jf_lst (ja_cons (je_tup (ja_cons (je_tup ja_nil) (ja_cons (je_var 0) ja_nil))) ja_nil)))) (jss_cons (js_for (ji_range1 Z.f_range (ja_cons (je_var 0) ja_nil)) (jn_name 1 sc_l_forms.nd) (jss_cons (js_set 4 sc_l_forms.nd (jf_je (jf_lst ja_nil))) (jss_cons (js_for (ji_seq (je_var 3)) (jn_tup rfl (jns_cons (jn_name 5 sc_l_forms.nd) (jns_cons (jn_name 6 sc_l_forms.nd) jns_nil))) (jss_one (js_if (jt_eq hr (je_jb (je_var 6)) (je_jb je_int)) (jss_one (js_append 2 (je_var 5))) (jss_cons (js_set 7 sc_l_forms.nd (je_min2 Z.f_min (ja_cons (je_var 6) (ja_cons (je_if (jt_ne hr (je_jb (je_var 5)) (je_jb (je_tup ja_nil))) (je_ix hr (je_jb (je_var 5)) (je_neg je_int)) (je_var 6)) ja_nil)))) (jss_one (js_set 4 sc_l_forms.nd (je_add (je_jb (je_var 4)) (je_jb (jf_je (jf_lc [("_law_part", 8)] sc_l_forms.nd (ji_range2 Z.f_range (ja_cons je_int (ja_cons (je_add (je_jb (je_var 7)) (je_jb je_int)) ja_nil))) b_l_forms_0 (fun _ _ _ _ _ => (jn_name 8 sc_l_forms.nd)) (fun _ _ _ _ _ => jts_nil) (fun _ _ _ _ _ => (je_tup (ja_cons (je_add (je_jb (je_var 5)) (je_jb (je_tup (ja_cons (je_var 8) ja_nil)))) (ja_cons (je_sub (je_jb (je_var 6)) (je_jb (je_var 8))) ja_nil)))))))))))))) (jss_one (js_set 3 sc_l_forms.nd (je_var 4)))))) (jss_one (js_ret (je_revL (je_jb (jf_je (jf_sorted (.seq .int) hr Z.f_sorted (je_jb (je_add (jb_own 2) (je_jb (jf_je (jf_lc [("_law_head", 5), ("_law_left", 6)] sc_l_forms.nd (ji_seq (je_var 3)) b_l_forms_1 (fun _ _ _ _ _ => (jn_tup rfl (jns_cons (jn_name 5 sc_l_forms.nd) (jns_cons (jn_name 6 sc_l_forms.nd) jns_nil)))) (fun _ _ _ _ _ => (jts_one (jt_eq hr (je_jb (je_var 6)) (je_jb je_int)))) (fun _ _ _ _ _ => (je_var 5)))))))))))))))
theorem ok_l_form (Z : Facts K mg) : DefOk ct0 P w K mg base "_law_form" s_l_form 3 ["_law_vat", "_law_least", "_law_top"] f_l_form := by
  have D_l_sip := ok_l_sip (P := P) (w := w) (base := base) Z
  have D_l_dip := ok_l_dip (P := P) (w := w) (base := base) Z
  have D_l_forms := ok_l_forms (P := P) (w := w) (base := base) Z
  exact def_ok Z.d_l_form sc_l_form fun _ _ _ _ _ _ _ hr hG => (jss_one (js_ret (je_call (D_l_dip.mono (by decide)) hr hG pb_l_dip (ja_cons (je_var 0) (ja_cons (je_call (D_l_forms.mono (by decide)) hr hG pb_l_forms (ja_cons (je_add (je_jb (je_var 1)) (je_jb (je_call (D_l_sip.mono (by decide)) hr hG pb_l_sip (ja_cons (je_var 0) (ja_cons (je_add (je_jb (je_sub (je_jb (je_var 2)) (je_jb (je_var 1)))) (je_jb je_int)) ja_nil)) rfl (al_cons (al_cons al_nil))))) ja_nil) rfl (al_cons al_nil)) ja_nil)) rfl (al_cons (al_cons al_nil)))))
theorem ok_l_tilted (Z : Facts K mg) : DefOk ct0 P w K mg base "_law_tilted" s_l_tilted 1 ["_law_form_here"] f_l_tilted := by
  exact def_ok Z.d_l_tilted sc_l_tilted fun _ _ _ _ _ _ _ hr hG => (jss_one (js_ret (je_tuple Z.f_tuple (je_jb (jf_je (jf_lc [("_law_k", 1)] sc_l_tilted.nd (ji_range1 Z.f_range (ja_cons (je_if (jt_ne hr (je_jb (je_var 0)) (je_jb (je_tup ja_nil))) (je_ix hr (je_jb (je_var 0)) je_int) je_int) ja_nil)) b_l_tilted_0 (fun _ _ _ _ _ => (jn_name 1 sc_l_tilted.nd)) (fun _ _ _ _ _ => jts_nil) (fun _ _ _ _ _ => (je_len Z.f_len (je_jb (jf_je (jf_lc [("_law_part", 2)] sc_l_tilted.nd (ji_seq (je_var 0)) b_l_tilted_1 (fun _ _ _ _ _ => (jn_name 2 sc_l_tilted.nd)) (fun _ _ _ _ _ => (jts_one (jt_gt (je_jb (je_var 2)) (je_jb (je_var 1))))) (fun _ _ _ _ _ => (je_var 2)))))))))))))
theorem ok_l_boxes (Z : Facts K mg) : DefOk ct0 P w K mg base "_law_boxes" s_l_boxes 1 ["_law_form_here", "_law_less"] f_l_boxes := by
  exact def_ok Z.d_l_boxes sc_l_boxes fun _ _ _ _ _ _ _ hr hG => (jss_cons (js_set 2 sc_l_boxes.nd (jf_je (jf_lst ja_nil))) (jss_cons (js_for (ji_range1 Z.f_range (ja_cons (je_len Z.f_len (je_jb (je_var 0))) ja_nil)) (jn_name 3 sc_l_boxes.nd) (jss_cons (js_set 4 sc_l_boxes.nd (je_if (jt_lt (je_jb (je_var 3)) (je_jb (je_len Z.f_len (je_jb (je_var 1))))) (je_ix hr (je_jb (je_var 1)) (je_var 3)) je_int)) (jss_one (js_set 2 sc_l_boxes.nd (je_add (je_jb (je_var 2)) (je_jb (jf_je (jf_lc [("_law_j", 5)] sc_l_boxes.nd (ji_range2 Z.f_range (ja_cons (je_var 4) (ja_cons (je_ix hr (je_jb (je_var 0)) (je_var 3)) ja_nil))) b_l_boxes_0 (fun _ _ _ _ _ => (jn_name 5 sc_l_boxes.nd)) (fun _ _ _ _ _ => jts_nil) (fun _ _ _ _ _ => (je_tup (ja_cons (je_var 3) (ja_cons (je_var 5) ja_nil)))))))))))) (jss_one (js_ret (je_var 2)))))
theorem ok_l_corner (Z : Facts K mg) : DefOk ct0 P w K mg base "_law_corner" s_l_corner 1 ["_law_box"] f_l_corner := by
  exact def_ok Z.d_l_corner sc_l_corner fun _ _ _ _ _ _ _ hr hG => (jss_one (js_ret (je_tup (ja_cons (je_add (je_jb (je_ix hr (je_jb (je_var 0)) je_int)) (je_jb je_int)) (ja_cons (je_add (je_jb (je_ix hr (je_jb (je_var 0)) je_int)) (je_jb je_int)) ja_nil)))))
theorem ok_l_is_square_at (Z : Facts K mg) : DefOk ct0 P w K mg base "_law_is_square_at" s_l_is_square_at 1 ["_law_box", "_law_boxes_here"] f_l_is_square_at := by
  exact def_ok Z.d_l_is_square_at sc_l_is_square_at fun _ _ _ _ _ _ _ hr hG => (jss_one (js_ret (je_and (je_in hr (je_tup (ja_cons (je_add (je_jb (je_ix hr (je_jb (je_var 0)) je_int)) (je_jb je_int)) (ja_cons (je_ix hr (je_jb (je_var 0)) je_int) ja_nil))) (je_jb (je_var 1))) (je_one (je_in hr (je_tup (ja_cons (je_ix hr (je_jb (je_var 0)) je_int) (ja_cons (je_add (je_jb (je_ix hr (je_jb (je_var 0)) je_int)) (je_jb je_int)) ja_nil))) (je_jb (je_var 1)))))))
theorem ok_l_is_beside (Z : Facts K mg) : DefOk ct0 P w K mg base "_law_is_beside" s_l_is_beside 1 ["_law_box", "_law_others"] f_l_is_beside := by
  exact def_ok Z.d_l_is_beside sc_l_is_beside fun _ _ _ _ _ _ _ hr hG => (jss_one (js_ret (je_ne hr (je_jb (jf_je (jf_lc [("_law_each", 2)] sc_l_is_beside.nd (ji_seq (je_var 1)) b_l_is_beside_0 (fun _ _ _ _ _ => (jn_name 2 sc_l_is_beside.nd)) (fun _ _ _ _ _ => (jts_one (jt_eq hr (je_jb (je_add (je_jb (je_abs Z.f_abs (je_jb (je_sub (je_jb (je_ix hr (je_jb (je_var 2)) je_int)) (je_jb (je_ix hr (je_jb (je_var 0)) je_int)))))) (je_jb (je_abs Z.f_abs (je_jb (je_sub (je_jb (je_ix hr (je_jb (je_var 2)) je_int)) (je_jb (je_ix hr (je_jb (je_var 0)) je_int)))))))) (je_jb je_int)))) (fun _ _ _ _ _ => (je_var 2))))) (je_jb (jf_je (jf_lst ja_nil))))))
theorem ok_l_is_ribbon (Z : Facts K mg) : DefOk ct0 P w K mg base "_law_is_ribbon" s_l_is_ribbon 2 ["_law_boxes_here"] f_l_is_ribbon := by
  have D_l_corner := ok_l_corner (P := P) (w := w) (base := base) Z
  have D_l_is_square_at := ok_l_is_square_at (P := P) (w := w) (base := base) Z
  have D_l_is_beside := ok_l_is_beside (P := P) (w := w) (base := base) Z
  exact def_ok Z.d_l_is_ribbon sc_l_is_ribbon fun _ _ _ _ _ _ _ hr hG => (jss_cons (js_if (jt_ne hr (je_jb (jf_je (jf_lc [("_law_box", 4)] sc_l_is_ribbon.nd (ji_seq (je_var 0)) b_l_is_ribbon_0 (fun _ _ _ _ _ => (jn_name 4 sc_l_is_ribbon.nd)) (fun _ _ _ _ _ => (jts_one (jt_w (jw_and (jt_in hr (je_call (D_l_corner.mono (by decide)) hr hG pb_l_corner (ja_cons (je_var 4) ja_nil) rfl (al_cons al_nil)) (je_jb (je_var 0))) (jw_and1 (jt_val (je_call (D_l_is_square_at.mono (by decide)) hr hG pb_l_is_square_at (ja_cons (je_var 4) (ja_cons (je_var 0) ja_nil)) rfl (al_cons (al_cons al_nil))))))))) (fun _ _ _ _ _ => (je_var 4))))) (je_jb (jf_je (jf_lst ja_nil)))) (jss_one (js_ret je_bl)) jss_nil) (jss_cons (js_asg (je_tup (ja_cons (jf_je (jf_lst ja_nil)) (ja_cons (je_sl (je_jb (je_var 0)) jo_none (jo_some je_int)) ja_nil))) (jn_tup rfl (jns_cons (jn_name 1 sc_l_is_ribbon.nd) (jns_cons (jn_name 2 sc_l_is_ribbon.nd) jns_nil)))) (jss_cons (js_while 200 (jt_ne hr (je_jb (je_var 2)) (je_jb (jf_je (jf_lst ja_nil)))) (jss_cons (js_asg (je_tup (ja_cons (je_add (je_jb (je_var 1)) (je_jb (je_var 2))) (ja_cons (je_var 2) ja_nil))) (jn_tup rfl (jns_cons (jn_name 1 sc_l_is_ribbon.nd) (jns_cons (jn_name 3 sc_l_is_ribbon.nd) jns_nil)))) (jss_cons (js_ownLc 2 [("_law_box", 4)] sc_l_is_ribbon.nd (ji_seq (je_var 0)) b_l_is_ribbon_1 (fun _ _ _ _ _ => (jn_name 4 sc_l_is_ribbon.nd)) (fun _ _ _ _ _ => (jts_one (jt_w (jw_and (jt_notIn hr (je_var 4) (je_jb (je_var 1))) (jw_and1 (jt_val (je_call (D_l_is_beside.mono (by decide)) hr hG pb_l_is_beside (ja_cons (je_var 4) (ja_cons (je_var 3) ja_nil)) rfl (al_cons (al_cons al_nil))))))))) (fun _ _ _ _ _ => (je_var 4))) (jss_frz 2 jss_nil)))) (jss_one (js_ret (je_eq hr (je_jb (je_len Z.f_len (je_jb (je_var 1)))) (je_jb (je_len Z.f_len (je_jb (je_var 0))))))))))
theorem ok_l_inner_forms (Z : Facts K mg) : DefOk ct0 P w K mg base "_law_inner_forms" s_l_inner_forms 1 ["_law_form_here", "_law_total"] f_l_inner_forms := by
  exact def_ok Z.d_l_inner_forms sc_l_inner_forms fun _ _ _ _ _ _ _ hr hG => (jss_cons (js_set 2 sc_l_inner_forms.nd (jf_je (jf_lst (ja_cons (je_tup ja_nil) ja_nil)))) (jss_cons (js_for (ji_range1 Z.f_range (ja_cons (je_len Z.f_len (je_jb (je_var 0))) ja_nil)) (jn_name 3 sc_l_inner_forms.nd) (jss_cons (js_set 4 sc_l_inner_forms.nd (jf_je (jf_lst ja_nil))) (jss_cons (js_for (ji_seq (je_var 2)) (jn_name 5 sc_l_inner_forms.nd) (jss_cons (js_set 6 sc_l_inner_forms.nd (je_min3 Z.f_min (ja_cons (je_ix hr (je_jb (je_var 0)) (je_var 3)) (ja_cons (je_if (jt_ne hr (je_jb (je_var 5)) (je_jb (je_tup ja_nil))) (je_ix hr (je_jb (je_var 5)) (je_neg je_int)) (je_ix hr (je_jb (je_var 0)) (je_var 3))) (ja_cons (je_sub (je_jb (je_var 1)) (je_jb (je_sum Z.f_sum (je_jb (je_var 5))))) ja_nil))))) (jss_one (js_set 4 sc_l_inner_forms.nd (je_add (je_jb (je_var 4)) (je_jb (jf_je (jf_lc [("_law_part", 7)] sc_l_inner_forms.nd (ji_range1 Z.f_range (ja_cons (je_add (je_jb (je_var 6)) (je_jb je_int)) ja_nil)) b_l_inner_forms_0 (fun _ _ _ _ _ => (jn_name 7 sc_l_inner_forms.nd)) (fun _ _ _ _ _ => jts_nil) (fun _ _ _ _ _ => (je_add (je_jb (je_var 5)) (je_jb (je_tup (ja_cons (je_var 7) ja_nil))))))))))))) (jss_one (js_set 2 sc_l_inner_forms.nd (je_var 4)))))) (jss_one (js_ret (jf_je (jf_lc [("_law_head", 5)] sc_l_inner_forms.nd (ji_seq (je_var 2)) b_l_inner_forms_1 (fun _ _ _ _ _ => (jn_name 5 sc_l_inner_forms.nd)) (fun _ _ _ _ _ => (jts_one (jt_eq hr (je_jb (je_sum Z.f_sum (je_jb (je_var 5)))) (je_jb (je_var 1))))) (fun _ _ _ _ _ => (je_tuple Z.f_tuple (je_jb (jf_je (jf_lc [("_law_part", 7)] sc_l_inner_forms.nd (ji_seq (je_var 5)) b_l_inner_forms_2 (fun _ _ _ _ _ => (jn_name 7 sc_l_inner_forms.nd)) (fun _ _ _ _ _ => (jts_one (jt_gt (je_jb (je_var 7)) (je_jb je_int)))) (fun _ _ _ _ _ => (je_var 7)))))))))))))
theorem ok_l_cut (Z : Facts K mg) : DefOk ct0 P w K mg base "_law_cut" s_l_cut 3 ["_law_form_here", "_law_many"] f_l_cut := by
  have D_l_boxes := ok_l_boxes (P := P) (w := w) (base := base) Z
  have D_l_is_ribbon := ok_l_is_ribbon (P := P) (w := w) (base := base) Z
  have D_l_inner_forms := ok_l_inner_forms (P := P) (w := w) (base := base) Z
  exact def_ok Z.d_l_cut sc_l_cut fun _ _ _ _ _ _ _ hr hG => (jss_cons (js_own 2 sc_l_cut.nd (jf_lst ja_nil)) (jss_cons (js_for (ji_seq (je_if (jt_le (je_jb (je_var 1)) (je_jb (je_sum Z.f_sum (je_jb (je_var 0))))) (je_call (D_l_inner_forms.mono (by decide)) hr hG pb_l_inner_forms (ja_cons (je_var 0) (ja_cons (je_sub (je_jb (je_sum Z.f_sum (je_jb (je_var 0)))) (je_jb (je_var 1))) ja_nil)) rfl (al_cons (al_cons al_nil))) (jf_je (jf_lst ja_nil)))) (jn_name 3 sc_l_cut.nd) (jss_cons (js_set 4 sc_l_cut.nd (je_call (D_l_boxes.mono (by decide)) hr hG pb_l_boxes (ja_cons (je_var 0) (ja_cons (je_var 3) ja_nil)) rfl (al_cons (al_cons al_nil)))) (jss_one (js_if (jt_val (je_call (D_l_is_ribbon.mono (by decide)) hr hG pb_l_is_ribbon (ja_cons (je_var 4) ja_nil) rfl (al_cons al_nil))) (jss_one (js_append 2 (je_tup (ja_cons (je_var 3) (ja_cons (je_sub (je_jb (je_lenset Z.f_len Z.f_set (je_jb (jf_je (jf_lc [("_law_box", 5)] sc_l_cut.nd (ji_seq (je_var 4)) b_l_cut_0 (fun _ _ _ _ _ => (jn_name 5 sc_l_cut.nd)) (fun _ _ _ _ _ => jts_nil) (fun _ _ _ _ _ => (je_ix hr (je_jb (je_var 5)) je_int))))))) (je_jb je_int)) ja_nil))))) jss_nil)))) (jss_one (js_ret (jf_je (jf_sorted (.two (.seq .int) .int) hr Z.f_sorted (jb_own 2)))))))
theorem ok_l_worn (Z : Facts K mg) : DefOk ct0 P w K mg base "_law_worn" s_l_worn 4 ["_law_vat", "_law_form_here", "_law_many"] f_l_worn := by
  have D_l_dip := ok_l_dip (P := P) (w := w) (base := base) Z
  have D_l_cut := ok_l_cut (P := P) (w := w) (base := base) Z
  exact def_ok Z.d_l_worn sc_l_worn fun _ _ _ _ _ _ _ hr hG => (jss_cons (js_for (ji_range1 Z.f_range (ja_cons (je_add (je_jb (je_div (je_jb (je_sum Z.f_sum (je_jb (je_var 1)))) (je_jb (je_var 2)))) (je_jb je_int)) ja_nil)) (jn_name 3 sc_l_worn.nd) (jss_cons (js_set 4 sc_l_worn.nd (je_call (D_l_cut.mono (by decide)) hr hG pb_l_cut (ja_cons (je_var 1) (ja_cons (je_var 2) ja_nil)) rfl (al_cons (al_cons al_nil)))) (jss_one (js_if (jt_ne hr (je_jb (je_var 4)) (je_jb (jf_je (jf_lst ja_nil)))) (jss_one (js_set 1 sc_l_worn.nd (je_ix hr (je_jb (je_call (D_l_dip.mono (by decide)) hr hG pb_l_dip (ja_cons (je_var 0) (ja_cons (je_var 4) ja_nil)) rfl (al_cons (al_cons al_nil)))) je_int))) jss_nil)))) (jss_one (js_ret (je_var 1))))
theorem ok_l_has_hook (Z : Facts K mg) : DefOk ct0 P w K mg base "_law_has_hook" s_l_has_hook 2 ["_law_form_here", "_law_many"] f_l_has_hook := by
  have D_l_tilted := ok_l_tilted (P := P) (w := w) (base := base) Z
  have D_l_boxes := ok_l_boxes (P := P) (w := w) (base := base) Z
  exact def_ok Z.d_l_has_hook sc_l_has_hook fun _ _ _ _ _ _ _ hr hG => (jss_cons (js_set 2 sc_l_has_hook.nd (je_call (D_l_tilted.mono (by decide)) hr hG pb_l_tilted (ja_cons (je_var 0) ja_nil) rfl (al_cons al_nil))) (jss_cons (js_for (ji_seq (je_call (D_l_boxes.mono (by decide)) hr hG pb_l_boxes (ja_cons (je_var 0) (ja_cons (je_tup ja_nil) ja_nil)) rfl (al_cons (al_cons al_nil)))) (jn_tup rfl (jns_cons (jn_name 3 sc_l_has_hook.nd) (jns_cons (jn_name 4 sc_l_has_hook.nd) jns_nil))) (jss_one (js_if (jt_eq hr (je_jb (je_mod (je_jb (je_intC Z.f_int (je_jb (je_sub (je_jb (je_sub (je_jb (je_add (je_jb (je_sub (je_jb (je_ix hr (je_jb (je_var 0)) (je_var 3))) (je_jb (je_var 4)))) (je_jb (je_ix hr (je_jb (je_var 2)) (je_var 4))))) (je_jb (je_var 3)))) (je_jb je_int))))) (je_jb (je_var 1)))) (je_jb je_int)) (jss_one (js_ret je_bl)) jss_nil))) (jss_one (js_ret je_bl))))
theorem ok_ribbons (Z : Facts K mg) : DefOk ct0 P w K mg base "ribbons" s_ribbons 5 ["shape", "size"] f_ribbons := by
  have D_without_ribbons := ok_without_ribbons (P := P) (w := w) (base := base) Z
  have D_check_ribbons := ok_check_ribbons (P := P) (w := w) (base := base) Z
  exact def_ok Z.d_ribbons sc_ribbons fun _ _ _ _ _ _ _ hr hG => (jss_cons (js_expr (je_call (D_check_ribbons.mono (by decide)) hr hG pb_check_ribbons (ja_cons (je_var 0) (ja_cons (je_var 1) ja_nil)) rfl (al_cons (al_cons al_nil)))) (jss_one (js_ret (je_tuple Z.f_tuple (je_jb (jf_je (jf_sorted (.two (.seq .int) .int) hr Z.f_sorted (je_jb (je_call (D_without_ribbons.mono (by decide)) hr hG pb_without_ribbons (ja_cons (je_var 0) (ja_cons (je_var 1) ja_nil)) rfl (al_cons (al_cons al_nil)))))))))))
theorem ok_l_great_right (Z : Facts K mg) : DefOk ct0 P w K mg base "_law_great_right" s_l_great_right 6 ["_law_vat"] f_l_great_right := by
  have D_ribbons := ok_ribbons (P := P) (w := w) (base := base) Z
  have D_center := ok_center (P := P) (w := w) (base := base) Z
  have D_l_sip := ok_l_sip (P := P) (w := w) (base := base) Z
  have D_l_has_hook := ok_l_has_hook (P := P) (w := w) (base := base) Z
  exact def_ok Z.d_l_great_right sc_l_great_right fun _ _ _ _ _ _ _ hr hG => (jss_cons (js_set 1 sc_l_great_right.nd (je_tup ja_nil)) (jss_cons (js_for (ji_range1 Z.f_range (ja_cons (je_add (je_jb je_int) (je_jb (je_call (D_l_sip.mono (by decide)) hr hG pb_l_sip (ja_cons (je_var 0) (ja_cons je_int ja_nil)) rfl (al_cons (al_cons al_nil))))) ja_nil)) (jn_name 2 sc_l_great_right.nd) (jss_cons (js_set 5 sc_l_great_right.nd (je_min2 Z.f_min (ja_cons (je_sub (je_jb je_int) (je_jb (je_sum Z.f_sum (je_jb (je_var 1))))) (ja_cons (je_if (jt_ne hr (je_jb (je_var 1)) (je_jb (je_tup ja_nil))) (je_ix hr (je_jb (je_var 1)) (je_neg je_int)) je_int) ja_nil)))) (jss_one (js_set 1 sc_l_great_right.nd (je_add (je_jb (je_var 1)) (je_jb (je_if (jt_gt (je_jb (je_var 5)) (je_jb je_int)) (je_tup (ja_cons (je_add (je_jb je_int) (je_jb (je_call (D_l_sip.mono (by decide)) hr hG pb_l_sip (ja_cons (je_var 0) (ja_cons (je_var 5) ja_nil)) rfl (al_cons (al_cons al_nil))))) ja_nil)) (je_tup ja_nil)))))))) (jss_cons (js_set 3 sc_l_great_right.nd (je_add (je_jb je_int) (je_jb (je_call (D_l_sip.mono (by decide)) hr hG pb_l_sip (ja_cons (je_var 0) (ja_cons je_int ja_nil)) rfl (al_cons (al_cons al_nil)))))) (jss_cons (js_set 4 sc_l_great_right.nd (je_call (D_center.mono (by decide)) hr hG pb_center (ja_cons (je_var 1) (ja_cons (je_var 3) ja_nil)) rfl (al_cons (al_cons al_nil)))) (jss_cons (js_if (jt_w (jw_or (jt_val (je_call (D_l_has_hook.mono (by decide)) hr hG pb_l_has_hook (ja_cons (je_var 4) (ja_cons (je_var 3) ja_nil)) rfl (al_cons (al_cons al_nil)))) (jw_or (jt_ne hr (je_jb (je_mod (je_jb (je_intC Z.f_int (je_jb (je_sub (je_jb (je_sum Z.f_sum (je_jb (je_var 1)))) (je_jb (je_sum Z.f_sum (je_jb (je_var 4)))))))) (je_jb (je_var 3)))) (je_jb je_int)) (jw_or1 (jt_ne hr (je_jb (je_call (D_center.mono (by decide)) hr hG pb_center (ja_cons (je_var 4) (ja_cons (je_var 3) ja_nil)) rfl (al_cons (al_cons al_nil)))) (je_jb (je_var 4))))))) (jss_one (js_ret je_bl)) jss_nil) (jss_one (js_ret (je_eq hr (je_jb (jf_je (jf_lc [("_law_less", 6), ("_law_height", 7)] sc_l_great_right.nd (ji_seq (je_call (D_ribbons.mono (by decide)) hr hG pb_ribbons (ja_cons (je_var 1) (ja_cons (je_var 3) ja_nil)) rfl (al_cons (al_cons al_nil)))) b_l_great_right_0 (fun _ _ _ _ _ => (jn_tup rfl (jns_cons (jn_name 6 sc_l_great_right.nd) (jns_cons (jn_name 7 sc_l_great_right.nd) jns_nil)))) (fun _ _ _ _ _ => (jts_one (jt_ne hr (je_jb (je_call (D_center.mono (by decide)) hr hG pb_center (ja_cons (je_var 6) (ja_cons (je_var 3) ja_nil)) rfl (al_cons (al_cons al_nil)))) (je_jb (je_var 4))))) (fun _ _ _ _ _ => (je_var 6))))) (je_jb (jf_je (jf_lst ja_nil)))))))))))
theorem ok_l_right (Z : Facts K mg) : DefOk ct0 P w K mg base "_law_right" s_l_right 7 ["_law_vat"] f_l_right := by
  have D_center := ok_center (P := P) (w := w) (base := base) Z
  have D_l_sip := ok_l_sip (P := P) (w := w) (base := base) Z
  have D_l_form := ok_l_form (P := P) (w := w) (base := base) Z
  have D_l_tilted := ok_l_tilted (P := P) (w := w) (base := base) Z
  have D_l_worn := ok_l_worn (P := P) (w := w) (base := base) Z
  have D_l_has_hook := ok_l_has_hook (P := P) (w := w) (base := base) Z
  have D_l_great_right := ok_l_great_right (P := P) (w := w) (base := base) Z
  exact def_ok Z.d_l_right sc_l_right fun _ _ _ _ _ _ _ hr hG => (jss_cons (js_for (ji_range1 Z.f_range (ja_cons je_int ja_nil)) (jn_name 1 sc_l_right.nd) (jss_cons (js_par 4 5 sc_l_right.nd (ja_cons (je_call (D_l_form.mono (by decide)) hr hG pb_l_form (ja_cons (je_var 0) (ja_cons je_int (ja_cons je_int ja_nil))) rfl (al_cons (al_cons (al_cons al_nil)))) (ja_cons (je_add (je_jb je_int) (je_jb (je_call (D_l_sip.mono (by decide)) hr hG pb_l_sip (ja_cons (je_var 0) (ja_cons je_int ja_nil)) rfl (al_cons (al_cons al_nil))))) ja_nil))) (jss_cons (js_set 3 sc_l_right.nd (je_call (D_l_worn.mono (by decide)) hr hG pb_l_worn (ja_cons (je_var 0) (ja_cons (je_var 4) (ja_cons (je_var 5) ja_nil))) rfl (al_cons (al_cons (al_cons al_nil))))) (jss_cons (js_if (jt_rprNe hG hr Z.f_repr (je_jb (jf_je (jf_lst (ja_cons (je_call (D_center.mono (by decide)) hr hG pb_center (ja_cons (je_var 4) (ja_cons (je_var 5) ja_nil)) rfl (al_cons (al_cons al_nil))) (ja_cons (je_callP swap2 (D_center.mono (by decide)) hr hG kp_center (jk_cons (je_var 5) (jk_cons (je_var 4) jk_nil)) swap2_len swap2_vals swap2_rep (al_cons (al_cons al_nil))) ja_nil))))) (je_jb (jf_je (jf_lst (ja_cons (je_var 3) (ja_cons (je_var 3) ja_nil)))))) (jss_one (js_ret je_bl)) jss_nil) (jss_cons (js_if (jt_w (jw_or (jt_ne hr (je_jb (je_call (D_l_worn.mono (by decide)) hr hG pb_l_worn (ja_cons (je_var 0) (ja_cons (je_var 4) (ja_cons (je_var 5) ja_nil))) rfl (al_cons (al_cons (al_cons al_nil))))) (je_jb (je_var 3))) (jw_or (jt_ne hr (je_jb (je_call (D_center.mono (by decide)) hr hG pb_center (ja_cons (je_var 3) (ja_cons (je_var 5) ja_nil)) rfl (al_cons (al_cons al_nil)))) (je_jb (je_var 3))) (jw_or1 (jt_val (je_call (D_l_has_hook.mono (by decide)) hr hG pb_l_has_hook (ja_cons (je_var 3) (ja_cons (je_var 5) ja_nil)) rfl (al_cons (al_cons al_nil)))))))) (jss_one (js_ret je_bl)) jss_nil) (jss_cons (js_if (jt_w (jw_or (jt_ne hr (je_jb (je_call (D_center.mono (by decide)) hr hG pb_center (ja_cons (je_call (D_l_tilted.mono (by decide)) hr hG pb_l_tilted (ja_cons (je_var 4) ja_nil) rfl (al_cons al_nil)) (ja_cons (je_var 5) ja_nil)) rfl (al_cons (al_cons al_nil)))) (je_jb (je_call (D_l_tilted.mono (by decide)) hr hG pb_l_tilted (ja_cons (je_var 3) ja_nil) rfl (al_cons al_nil)))) (jw_or1 (jt_ne hr (je_jb (je_call (D_center.mono (by decide)) hr hG pb_center (ja_cons (je_var 4) (ja_cons je_int ja_nil)) rfl (al_cons (al_cons al_nil)))) (je_jb (je_tup ja_nil)))))) (jss_one (js_ret je_bl)) jss_nil) (jss_one (js_if (jt_ne hr (je_jb (je_call (D_center.mono (by decide)) hr hG pb_center (ja_cons (je_var 4) (ja_cons (je_add (je_jb (je_sum Z.f_sum (je_jb (je_var 4)))) (je_jb je_int)) ja_nil)) rfl (al_cons (al_cons al_nil)))) (je_jb (je_var 4))) (jss_one (js_ret je_bl)) jss_nil)))))))) (jss_cons (js_set 2 sc_l_right.nd (je_tupR Z.f_tuple (jr_range3 Z.f_range (ja_cons (je_add (je_jb je_int) (je_jb (je_call (D_l_sip.mono (by decide)) hr hG pb_l_sip (ja_cons (je_var 0) (ja_cons je_int ja_nil)) rfl (al_cons (al_cons al_nil))))) (ja_cons je_int (ja_cons (je_neg je_int) ja_nil)))))) (jss_one (js_ret (je_and (je_call (D_l_great_right.mono (by decide)) hr hG pb_l_great_right (ja_cons (je_var 0) ja_nil) rfl (al_cons al_nil)) (je_and (je_eq hr (je_jb (je_call (D_center.mono (by decide)) hr hG pb_center (ja_cons (je_var 2) (ja_cons je_int ja_nil)) rfl (al_cons (al_cons al_nil)))) (je_jb (je_var 2))) (je_one (je_eq hr (je_jb (je_call (D_center.mono (by decide)) hr hG pb_center (ja_cons (je_tup ja_nil) (ja_cons je_int ja_nil)) rfl (al_cons (al_cons al_nil)))) (je_jb (je_tup ja_nil))))))))))
theorem ok_law (Z : Facts K mg) : DefOk ct0 P w K mg base "law" s_law 8 ["_law_script"] f_law := by
  have D_l_vat_of := ok_l_vat_of (P := P) (w := w) (base := base) Z
  have D_l_right := ok_l_right (P := P) (w := w) (base := base) Z
  exact def_ok Z.d_law sc_law fun _ _ _ _ _ _ _ hr hG => (jss_one (js_ret (je_all Z.f_all (je_jb (jf_je (jf_lc [("_law_turn", 1)] sc_law.nd (ji_range1 Z.f_range (ja_cons (je_max2 Z.f_max (ja_cons je_int (ja_cons (je_min2 Z.f_min (ja_cons (je_len Z.f_len (je_jb (je_var 0))) (ja_cons je_int ja_nil))) ja_nil))) ja_nil)) b_law_0 (fun _ _ _ _ _ => (jn_name 1 sc_law.nd)) (fun _ _ _ _ _ => jts_nil) (fun _ _ _ _ _ => (je_call (D_l_right.mono (by decide)) hr hG pb_l_right (ja_cons (je_call (D_l_vat_of.mono (by decide)) hr hG pb_l_vat_of (ja_cons (je_var 0) (ja_cons (je_var 1) ja_nil)) rfl (al_cons (al_cons al_nil))) ja_nil) rfl (al_cons al_nil)))))))))
end
end K60
set_option Elab.async false
set_option linter.all false
set_option maxRecDepth 100000
set_option maxHeartbeats 0
namespace K60
open PySem PySem.Spec PyProof.Rows L2 J
def d_l_vat_of : He.DefD := ⟨("_law_vat_of", none), "_law_vat_of", "_law_vat_of", defArgs s_l_vat_of, defBody s_l_vat_of, defScope s_l_vat_of, [], []⟩
def d_beads_of : He.DefD := ⟨("beads_of", none), "beads_of", "beads_of", defArgs s_beads_of, defBody s_beads_of, defScope s_beads_of, [], []⟩
def d_trimmed : He.DefD := ⟨("trimmed", none), "trimmed", "trimmed", defArgs s_trimmed, defBody s_trimmed, defScope s_trimmed, [], []⟩
def d_shape_of_beads : He.DefD := ⟨("shape_of_beads", none), "shape_of_beads", "shape_of_beads", defArgs s_shape_of_beads, defBody s_shape_of_beads, defScope s_shape_of_beads, [], []⟩
def d_without_ribbons : He.DefD := ⟨("without_ribbons", none), "without_ribbons", "without_ribbons", defArgs s_without_ribbons, defBody s_without_ribbons, defScope s_without_ribbons, [], []⟩
def d_is_number : He.DefD := ⟨("is_number", none), "is_number", "is_number", defArgs s_is_number, defBody s_is_number, defScope s_is_number, [], []⟩
def d_is_shape : He.DefD := ⟨("is_shape", none), "is_shape", "is_shape", defArgs s_is_shape, defBody s_is_shape, defScope s_is_shape, [], []⟩
def d_check_shape : He.DefD := ⟨("check_shape", none), "check_shape", "check_shape", defArgs s_check_shape, defBody s_check_shape, defScope s_check_shape, [], []⟩
def d_check_ribbons : He.DefD := ⟨("check_ribbons", none), "check_ribbons", "check_ribbons", defArgs s_check_ribbons, defBody s_check_ribbons, defScope s_check_ribbons, [], []⟩
def d_center : He.DefD := ⟨("center", none), "center", "center", defArgs s_center, defBody s_center, defScope s_center, [], []⟩
def d_l_sip : He.DefD := ⟨("_law_sip", none), "_law_sip", "_law_sip", defArgs s_l_sip, defBody s_l_sip, defScope s_l_sip, [], []⟩
def d_l_dip : He.DefD := ⟨("_law_dip", none), "_law_dip", "_law_dip", defArgs s_l_dip, defBody s_l_dip, defScope s_l_dip, [], []⟩
def d_l_forms : He.DefD := ⟨("_law_forms", none), "_law_forms", "_law_forms", defArgs s_l_forms, defBody s_l_forms, defScope s_l_forms, [], []⟩
def d_l_form : He.DefD := ⟨("_law_form", none), "_law_form", "_law_form", defArgs s_l_form, defBody s_l_form, defScope s_l_form, [], []⟩
def d_l_tilted : He.DefD := ⟨("_law_tilted", none), "_law_tilted", "_law_tilted", defArgs s_l_tilted, defBody s_l_tilted, defScope s_l_tilted, [], []⟩
def d_l_boxes : He.DefD := ⟨("_law_boxes", none), "_law_boxes", "_law_boxes", defArgs s_l_boxes, defBody s_l_boxes, defScope s_l_boxes, [], []⟩
def d_l_corner : He.DefD := ⟨("_law_corner", none), "_law_corner", "_law_corner", defArgs s_l_corner, defBody s_l_corner, defScope s_l_corner, [], []⟩
def d_l_is_square_at : He.DefD := ⟨("_law_is_square_at", none), "_law_is_square_at", "_law_is_square_at", defArgs s_l_is_square_at, defBody s_l_is_square_at, defScope s_l_is_square_at, [], []⟩
def d_l_is_beside : He.DefD := ⟨("_law_is_beside", none), "_law_is_beside", "_law_is_beside", defArgs s_l_is_beside, defBody s_l_is_beside, defScope s_l_is_beside, [], []⟩
def d_l_is_ribbon : He.DefD := ⟨("_law_is_ribbon", none), "_law_is_ribbon", "_law_is_ribbon", defArgs s_l_is_ribbon, defBody s_l_is_ribbon, defScope s_l_is_ribbon, [], []⟩
def d_l_inner_forms : He.DefD := ⟨("_law_inner_forms", none), "_law_inner_forms", "_law_inner_forms", defArgs s_l_inner_forms, defBody s_l_inner_forms, defScope s_l_inner_forms, [], []⟩
def d_l_cut : He.DefD := ⟨("_law_cut", none), "_law_cut", "_law_cut", defArgs s_l_cut, defBody s_l_cut, defScope s_l_cut, [], []⟩
def d_l_worn : He.DefD := ⟨("_law_worn", none), "_law_worn", "_law_worn", defArgs s_l_worn, defBody s_l_worn, defScope s_l_worn, [], []⟩
def d_l_has_hook : He.DefD := ⟨("_law_has_hook", none), "_law_has_hook", "_law_has_hook", defArgs s_l_has_hook, defBody s_l_has_hook, defScope s_l_has_hook, [], []⟩
def d_ribbons : He.DefD := ⟨("ribbons", none), "ribbons", "ribbons", defArgs s_ribbons, defBody s_ribbons, defScope s_ribbons, [], []⟩
def d_l_great_right : He.DefD := ⟨("_law_great_right", none), "_law_great_right", "_law_great_right", defArgs s_l_great_right, defBody s_l_great_right, defScope s_l_great_right, [], []⟩
def d_l_right : He.DefD := ⟨("_law_right", none), "_law_right", "_law_right", defArgs s_l_right, defBody s_l_right, defScope s_l_right, [], []⟩
def d_law : He.DefD := ⟨("law", none), "law", "law", defArgs s_law, defBody s_law, defScope s_law, [], []⟩
def fnL : List He.DefD := [d_l_vat_of, d_beads_of, d_trimmed, d_shape_of_beads, d_without_ribbons, d_is_number, d_is_shape, d_check_shape, d_check_ribbons, d_center, d_l_sip, d_l_dip, d_l_forms, d_l_form, d_l_tilted, d_l_boxes, d_l_corner, d_l_is_square_at, d_l_is_beside, d_l_is_ribbon, d_l_inner_forms, d_l_cut, d_l_worn, d_l_has_hook, d_ribbons, d_l_great_right, d_l_right, d_law]
def faL : List He.Fa := [.glo "_law_vat_of", .glo "beads_of", .glo "trimmed", .glo "shape_of_beads", .glo "without_ribbons", .glo "is_number", .glo "is_shape", .glo "check_shape", .glo "check_ribbons", .glo "center", .glo "_law_sip", .glo "_law_dip", .glo "_law_forms", .glo "_law_form", .glo "_law_tilted", .glo "_law_boxes", .glo "_law_corner", .glo "_law_is_square_at", .glo "_law_is_beside", .glo "_law_is_ribbon", .glo "_law_inner_forms", .glo "_law_cut", .glo "_law_worn", .glo "_law_has_hook", .glo "ribbons", .glo "_law_great_right", .glo "_law_right", .glo "law", .free "abs", .free "all", .free "bool", .free "divmod", .free "enumerate", .free "int", .free "isinstance", .free "len", .free "max", .free "min", .free "range", .free "repr", .free "set", .free "sorted", .free "sum", .free "tuple", .int "MOST_BOXES" 40]
abbrev R : PySem.W.OpenRow := PySem.W.OpenLaw.row PySem.Challenge.rw_wordshapes_k60_whole_centers
abbrev hk : PySem.W.Hook := He.hookD 4 faL fnL
def ob (s : PySem.W.SharedT) : He.AlD := He.obsDG 4 faL fnL (HandSHeadRun.getT s)
theorem ob_eq (st : PySem.W.SharedT) : ob st = hk.obs st.abs := He.obsDG_eq (HandSHeadRun.getT_eq st)
def looseP0 : List Str := ["WrongValue", "InvalidShape", "InvalidNumber", "MOST_BOXES", "is_number", "is_shape", "check_shape", "trimmed", "beads_of", "shape_of_beads", "without_ribbons", "check_ribbons", "ribbons", "center", "_law_vat_of", "_law_sip", "_law_dip", "_law_forms", "_law_form", "_law_tilted", "_law_boxes", "_law_is_ribbon", "_law_corner", "_law_is_square_at", "_law_is_beside", "_law_inner_forms", "_law_cut", "_law_worn", "_law_has_hook", "_law_great_right"]
def looseP1 : List Str := ["_law_right"]
def loose : List Str := looseP0 ++ looseP1
theorem run (w : World) : HandSHeadRun.RunEq R (PySem.W.view R.prog [35]) hk ob 6000 loose w := by
  intro os
  kernel_rfl
theorem facts {K : PySem.W.Frag} {h : Heap} {mg : Str → Option Value} (X : K.In h) (G : h.Ns mainGlobals mg) (c : He.SaysD faL fnL K) : Facts K mg where
  f_abs := He.free_ok X G (c.fact 28 (f := .free "abs") rfl)
  f_all := He.free_ok X G (c.fact 29 (f := .free "all") rfl)
  f_bool := He.free_ok X G (c.fact 30 (f := .free "bool") rfl)
  f_divmod := He.free_ok X G (c.fact 31 (f := .free "divmod") rfl)
  f_enumerate := He.free_ok X G (c.fact 32 (f := .free "enumerate") rfl)
  f_int := He.free_ok X G (c.fact 33 (f := .free "int") rfl)
  f_isinstance := He.free_ok X G (c.fact 34 (f := .free "isinstance") rfl)
  f_len := He.free_ok X G (c.fact 35 (f := .free "len") rfl)
  f_max := He.free_ok X G (c.fact 36 (f := .free "max") rfl)
  f_min := He.free_ok X G (c.fact 37 (f := .free "min") rfl)
  f_range := He.free_ok X G (c.fact 38 (f := .free "range") rfl)
  f_repr := He.free_ok X G (c.fact 39 (f := .free "repr") rfl)
  f_set := He.free_ok X G (c.fact 40 (f := .free "set") rfl)
  f_sorted := He.free_ok X G (c.fact 41 (f := .free "sorted") rfl)
  f_sum := He.free_ok X G (c.fact 42 (f := .free "sum") rfl)
  f_tuple := He.free_ok X G (c.fact 43 (f := .free "tuple") rfl)
  c_MOST_BOXES := He.int_ok X G (c.fact 44 (f := .int "MOST_BOXES" 40) rfl)
  d_l_vat_of := let ⟨fd, F⟩ := c.def_ 0 (d := d_l_vat_of) rfl; ⟨_, fd, F, He.glo_ok X G (c.fact 0 (f := .glo "_law_vat_of") rfl)⟩
  d_beads_of := let ⟨fd, F⟩ := c.def_ 1 (d := d_beads_of) rfl; ⟨_, fd, F, He.glo_ok X G (c.fact 1 (f := .glo "beads_of") rfl)⟩
  d_trimmed := let ⟨fd, F⟩ := c.def_ 2 (d := d_trimmed) rfl; ⟨_, fd, F, He.glo_ok X G (c.fact 2 (f := .glo "trimmed") rfl)⟩
  d_shape_of_beads := let ⟨fd, F⟩ := c.def_ 3 (d := d_shape_of_beads) rfl; ⟨_, fd, F, He.glo_ok X G (c.fact 3 (f := .glo "shape_of_beads") rfl)⟩
  d_without_ribbons := let ⟨fd, F⟩ := c.def_ 4 (d := d_without_ribbons) rfl; ⟨_, fd, F, He.glo_ok X G (c.fact 4 (f := .glo "without_ribbons") rfl)⟩
  d_is_number := let ⟨fd, F⟩ := c.def_ 5 (d := d_is_number) rfl; ⟨_, fd, F, He.glo_ok X G (c.fact 5 (f := .glo "is_number") rfl)⟩
  d_is_shape := let ⟨fd, F⟩ := c.def_ 6 (d := d_is_shape) rfl; ⟨_, fd, F, He.glo_ok X G (c.fact 6 (f := .glo "is_shape") rfl)⟩
  d_check_shape := let ⟨fd, F⟩ := c.def_ 7 (d := d_check_shape) rfl; ⟨_, fd, F, He.glo_ok X G (c.fact 7 (f := .glo "check_shape") rfl)⟩
  d_check_ribbons := let ⟨fd, F⟩ := c.def_ 8 (d := d_check_ribbons) rfl; ⟨_, fd, F, He.glo_ok X G (c.fact 8 (f := .glo "check_ribbons") rfl)⟩
  d_center := let ⟨fd, F⟩ := c.def_ 9 (d := d_center) rfl; ⟨_, fd, F, He.glo_ok X G (c.fact 9 (f := .glo "center") rfl)⟩
  d_l_sip := let ⟨fd, F⟩ := c.def_ 10 (d := d_l_sip) rfl; ⟨_, fd, F, He.glo_ok X G (c.fact 10 (f := .glo "_law_sip") rfl)⟩
  d_l_dip := let ⟨fd, F⟩ := c.def_ 11 (d := d_l_dip) rfl; ⟨_, fd, F, He.glo_ok X G (c.fact 11 (f := .glo "_law_dip") rfl)⟩
  d_l_forms := let ⟨fd, F⟩ := c.def_ 12 (d := d_l_forms) rfl; ⟨_, fd, F, He.glo_ok X G (c.fact 12 (f := .glo "_law_forms") rfl)⟩
  d_l_form := let ⟨fd, F⟩ := c.def_ 13 (d := d_l_form) rfl; ⟨_, fd, F, He.glo_ok X G (c.fact 13 (f := .glo "_law_form") rfl)⟩
  d_l_tilted := let ⟨fd, F⟩ := c.def_ 14 (d := d_l_tilted) rfl; ⟨_, fd, F, He.glo_ok X G (c.fact 14 (f := .glo "_law_tilted") rfl)⟩
  d_l_boxes := let ⟨fd, F⟩ := c.def_ 15 (d := d_l_boxes) rfl; ⟨_, fd, F, He.glo_ok X G (c.fact 15 (f := .glo "_law_boxes") rfl)⟩
  d_l_corner := let ⟨fd, F⟩ := c.def_ 16 (d := d_l_corner) rfl; ⟨_, fd, F, He.glo_ok X G (c.fact 16 (f := .glo "_law_corner") rfl)⟩
  d_l_is_square_at := let ⟨fd, F⟩ := c.def_ 17 (d := d_l_is_square_at) rfl; ⟨_, fd, F, He.glo_ok X G (c.fact 17 (f := .glo "_law_is_square_at") rfl)⟩
  d_l_is_beside := let ⟨fd, F⟩ := c.def_ 18 (d := d_l_is_beside) rfl; ⟨_, fd, F, He.glo_ok X G (c.fact 18 (f := .glo "_law_is_beside") rfl)⟩
  d_l_is_ribbon := let ⟨fd, F⟩ := c.def_ 19 (d := d_l_is_ribbon) rfl; ⟨_, fd, F, He.glo_ok X G (c.fact 19 (f := .glo "_law_is_ribbon") rfl)⟩
  d_l_inner_forms := let ⟨fd, F⟩ := c.def_ 20 (d := d_l_inner_forms) rfl; ⟨_, fd, F, He.glo_ok X G (c.fact 20 (f := .glo "_law_inner_forms") rfl)⟩
  d_l_cut := let ⟨fd, F⟩ := c.def_ 21 (d := d_l_cut) rfl; ⟨_, fd, F, He.glo_ok X G (c.fact 21 (f := .glo "_law_cut") rfl)⟩
  d_l_worn := let ⟨fd, F⟩ := c.def_ 22 (d := d_l_worn) rfl; ⟨_, fd, F, He.glo_ok X G (c.fact 22 (f := .glo "_law_worn") rfl)⟩
  d_l_has_hook := let ⟨fd, F⟩ := c.def_ 23 (d := d_l_has_hook) rfl; ⟨_, fd, F, He.glo_ok X G (c.fact 23 (f := .glo "_law_has_hook") rfl)⟩
  d_ribbons := let ⟨fd, F⟩ := c.def_ 24 (d := d_ribbons) rfl; ⟨_, fd, F, He.glo_ok X G (c.fact 24 (f := .glo "ribbons") rfl)⟩
  d_l_great_right := let ⟨fd, F⟩ := c.def_ 25 (d := d_l_great_right) rfl; ⟨_, fd, F, He.glo_ok X G (c.fact 25 (f := .glo "_law_great_right") rfl)⟩
  d_l_right := let ⟨fd, F⟩ := c.def_ 26 (d := d_l_right) rfl; ⟨_, fd, F, He.glo_ok X G (c.fact 26 (f := .glo "_law_right") rfl)⟩
  d_law := let ⟨fd, F⟩ := c.def_ 27 (d := d_law) rfl; ⟨_, fd, F, He.glo_ok X G (c.fact 27 (f := .glo "law") rfl)⟩
end K60
set_option Elab.async false
set_option linter.all false
set_option maxRecDepth 100000
/-! beads of shapes, what is left when ribbons are taken away: numbers alone -/
namespace K60
def beads : List Nat → List Nat
  | [] => []
  | p :: r => (p + r.length) :: beads r
def shapeD : List Nat → List Nat
  | [] => []
  | b :: r => (b - r.length) :: shapeD r
abbrev Desc (l : List Nat) : Prop := l.Pairwise (· ≥ ·)
abbrev SDesc (l : List Nat) : Prop := l.Pairwise (· > ·)
theorem beads_len : ∀ l : List Nat, (beads l).length = l.length
  | [] => rfl
  | p :: r => by simp [beads, beads_len r]
theorem shapeD_len : ∀ l : List Nat, (shapeD l).length = l.length
  | [] => rfl
  | p :: r => by simp [shapeD, shapeD_len r]
theorem shapeD_beads : ∀ l : List Nat, shapeD (beads l) = l
  | [] => rfl
  | p :: r => by simp [beads, shapeD, beads_len, shapeD_beads r]
theorem beads_lt {p : Nat} : ∀ r : List Nat, (∀ q ∈ r, q ≤ p) → ∀ x ∈ beads r, x < p + r.length
  | [], _, x, h => by cases h
  | q :: r, hq, x, h => by
    simp only [beads, List.mem_cons] at h
    rcases h with rfl | h
    · have := hq q (by simp); simp; omega
    · have := beads_lt r (fun y hy => hq y (by simp [hy])) x h
      simp; omega
theorem beads_desc : ∀ l : List Nat, Desc l → SDesc (beads l)
  | [], _ => .nil
  | p :: r, h => by
    (obtain ⟨h1, h2⟩ := List.pairwise_cons.mp h)
    exact List.pairwise_cons.mpr ⟨fun x hx => beads_lt r h1 x hx, beads_desc r h2⟩
theorem sdesc_ge : ∀ (r : List Nat) (b : Nat), SDesc (b :: r) → r.length ≤ b
  | [], b, _ => Nat.zero_le _
  | c :: r, b, h => by
    (obtain ⟨h1, h2⟩ := List.pairwise_cons.mp h)
    have := sdesc_ge r c h2
    have := h1 c (by simp)
    simp; omega
theorem beads_shapeD : ∀ ds : List Nat, SDesc ds → beads (shapeD ds) = ds
  | [], _ => rfl
  | b :: r, h => by
    have h1 := sdesc_ge r b h
    obtain ⟨_, h2⟩ := List.pairwise_cons.mp h
    simp only [shapeD, beads, shapeD_len, beads_shapeD r h2]
    congr 1
    omega
theorem shapeD_le : ∀ (r : List Nat) (b : Nat), SDesc (b :: r) → ∀ q ∈ shapeD r, q ≤ b - r.length
  | [], b, _, q, h => by cases h
  | c :: r, b, h, q, hq => by
    (obtain ⟨h1, h2⟩ := List.pairwise_cons.mp h)
    have h3 := h1 c (by simp)
    simp only [shapeD, List.mem_cons] at hq
    rcases hq with rfl | hq
    · simp; omega
    · have := shapeD_le r c h2 q hq
      simp; omega
theorem shapeD_desc : ∀ ds : List Nat, SDesc ds → Desc (shapeD ds)
  | [], _ => .nil
  | b :: r, h => List.pairwise_cons.mpr ⟨fun q hq => shapeD_le r b h q hq, shapeD_desc r (List.pairwise_cons.mp h).2⟩
def trim (l : List Nat) : List Nat := l.filter (0 < ·)
theorem trim_zero : ∀ r : List Nat, (∀ q ∈ r, q ≤ 0) → trim r = [] ∧ r = List.replicate r.length 0
  | [], _ => ⟨rfl, rfl⟩
  | q :: r, h => by
    have e : q = 0 := by have := h q (by simp); omega
    subst e
    obtain ⟨h1, h2⟩ := trim_zero r fun y hy => h y (by simp [hy])
    refine ⟨by simpa [trim] using h1, ?_⟩
    rw [List.length_cons, List.replicate_succ, ← h2]
theorem trim_pad : ∀ x : List Nat, Desc x → x = trim x ++ List.replicate (x.length - (trim x).length) 0
  | [], _ => rfl
  | p :: r, h => by
    (obtain ⟨h1, h2⟩ := List.pairwise_cons.mp h)
    by_cases hp : 0 < p
    · have e : trim (p :: r) = p :: trim r := by simp [trim, hp]
      rw [e, List.length_cons, List.length_cons, Nat.add_sub_add_right, List.cons_append, ← trim_pad r h2]
    · have e0 : p = 0 := by omega
      subst e0
      obtain ⟨h3, h4⟩ := trim_zero (0 :: r) (fun y hy => by rcases List.mem_cons.mp hy with rfl | hy; exact Nat.le_refl _; exact h1 y hy)
      rw [h3]
      simpa using h4
theorem trim_len (x : List Nat) : (trim x).length ≤ x.length := List.length_filter_le _ _
theorem trim_pos (x : List Nat) : ∀ q ∈ trim x, 0 < q := fun q h => by simpa using (List.mem_filter.mp h).2
theorem trim_desc {x : List Nat} (h : Desc x) : Desc (trim x) := h.filter _
theorem trim_sum : ∀ x : List Nat, (trim x).sum = x.sum
  | [] => rfl
  | p :: r => by
    by_cases hp : 0 < p
    · have e : trim (p :: r) = p :: trim r := by simp [trim, hp]
      rw [e, List.sum_cons, List.sum_cons, trim_sum r]
    · have e : trim (p :: r) = trim r := by simp [trim, hp]
      have e0 : p = 0 := by omega
      rw [e, List.sum_cons, trim_sum r, e0, Nat.zero_add]
theorem trim_id {s : List Nat} (h : ∀ q ∈ s, 0 < q) : trim s = s := List.filter_eq_self.mpr fun q hq => by simpa using h q hq
theorem trim_rep (s : List Nat) (k : Nat) : trim (s ++ List.replicate k 0) = trim s := by
  unfold trim
  rw [List.filter_append]
  have : (List.replicate k 0).filter (0 < ·) = [] := by
    rw [List.filter_eq_nil_iff]
    intro a ha
    rw [(List.mem_replicate.mp ha).2]
    decide
  rw [this, List.append_nil]
/-! padded -/
def down (k : Nat) : List Nat := beads (List.replicate k 0)
theorem mem_down : ∀ (k x : Nat), x ∈ down k ↔ x < k
  | 0, x => by simp [down, beads]
  | k + 1, x => by
    have ih := mem_down k x
    unfold down at ih ⊢
    rw [List.replicate_succ, beads, List.mem_cons, ih, List.length_replicate]
    omega
theorem beads_pad (k : Nat) : ∀ l : List Nat, beads (l ++ List.replicate k 0) = (beads l).map (· + k) ++ down k
  | [] => rfl
  | p :: r => by
    rw [List.cons_append, beads, beads_pad k r, beads, List.map_cons, List.cons_append, List.length_append, List.length_replicate]
    congr 1
    omega
def PB (s : List Nat) : List Nat := beads (s ++ List.replicate (40 - s.length) 0)
theorem PB_trim {x : List Nat} (h : Desc x) (hl : x.length ≤ 40) : PB (trim x) = beads (x ++ List.replicate (40 - x.length) 0) := by
  have h1 := trim_len x
  unfold PB
  have e : x ++ List.replicate (40 - x.length) 0 = trim x ++ List.replicate (40 - (trim x).length) 0 := by
    conv => lhs; rw [trim_pad x h]
    have hlen : (trim x ++ List.replicate (x.length - (trim x).length) 0).length = x.length := by rw [← trim_pad x h]
    rw [hlen, List.append_assoc, List.replicate_append_replicate]
    congr 2
    omega
  rw [e]
/-! classes -/
def cnt (m r : Nat) (l : List Nat) : Nat := (l.filter fun x => x % m == r).length
theorem cnt_append (m r : Nat) (a b : List Nat) : cnt m r (a ++ b) = cnt m r a + cnt m r b := by unfold cnt; rw [List.filter_append, List.length_append]
theorem cnt_perm (m r : Nat) {a b : List Nat} (h : a.Perm b) : cnt m r a = cnt m r b := (h.filter _).length_eq
theorem cnt_map (m r : Nat) {f g : Nat → Nat} : ∀ l : List Nat, (∀ o ∈ l, f o % m = g o % m) → cnt m r (l.map f) = cnt m r (l.map g)
  | [], _ => rfl
  | a :: l, h => by
    have e := h a (by simp)
    have ih := cnt_map m r l fun o ho => h o (by simp [ho])
    unfold cnt at ih ⊢
    rw [List.map_cons, List.map_cons, List.filter_cons, List.filter_cons, e]
    split
    · rw [List.length_cons, List.length_cons, ih]
    · exact ih
def repl (b g o : Nat) : Nat := if o = b then g else o
theorem repl_sum (b m : Nat) (hm : m ≤ b) : ∀ l : List Nat, l.Nodup → b ∈ l → (l.map (repl b (b - m))).sum + m = l.sum
  | [], _, h => by cases h
  | a :: l, hn, h => by
    (obtain ⟨h1, h2⟩ := List.nodup_cons.mp hn)
    rw [List.map_cons, List.sum_cons, List.sum_cons]
    by_cases e : a = b
    · subst e
      have : l.map (repl a (a - m)) = l := by
        (conv => rhs; rw [← List.map_id l])
        refine List.map_congr_left fun o ho => ?_
        unfold repl
        rw [if_neg (fun z : o = a => h1 (z ▸ ho))]
        rfl
      rw [this]
      unfold repl
      rw [if_pos rfl]
      omega
    · have hb : b ∈ l := by
        (rcases List.mem_cons.mp h with z | z)
        · exact absurd z.symm e
        · exact z
      have ih := repl_sum b m hm l h2 hb
      unfold repl at ih ⊢
      rw [if_neg e]
      omega
theorem repl_nodup (b g : Nat) : ∀ l : List Nat, l.Nodup → g ∉ l → (l.map (repl b g)).Nodup
  | [], _, _ => .nil
  | a :: l, hn, hg => by
    (obtain ⟨h1, h2⟩ := List.nodup_cons.mp hn)
    have hg2 : g ∉ l := fun z => hg (by simp [z])
    rw [List.map_cons]
    refine List.nodup_cons.mpr ⟨fun z => ?_, repl_nodup b g l h2 hg2⟩
    obtain ⟨o, ho, e⟩ := List.mem_map.mp z
    unfold repl at e
    by_cases e1 : a = b
    · rw [if_pos e1] at e
      by_cases e2 : o = b
      · exact h1 (by rw [e1, ← e2]; exact ho)
      · rw [if_neg e2] at e; exact hg2 (e ▸ ho)
    · rw [if_neg e1] at e
      by_cases e2 : o = b
      · rw [if_pos e2] at e; exact hg (by simp [e])
      · rw [if_neg e2] at e; exact h1 (e ▸ ho)
def tri : Nat → Nat
  | 0 => 0
  | n + 1 => n + tri n
theorem beads_sum : ∀ l : List Nat, (beads l).sum = l.sum + tri l.length
  | [] => rfl
  | p :: r => by rw [beads, List.sum_cons, List.sum_cons, beads_sum r, List.length_cons, tri]; omega
structure IsSh (s : List Nat) : Prop where
  desc : Desc s
  pos : ∀ q ∈ s, 0 < q
  len : s.length ≤ 40
def cls (m r : Nat) (s : List Nat) : Nat := cnt m r (PB s)
/-- what a move of a bead makes of a shape -/
theorem move_ok {s ds : List Nat} {b m : Nat} (hs : IsSh s) (hb : b ∈ beads s) (hm : m ≤ b) (hg : b - m ∉ beads s) (hp : ds.Perm ((beads s).map (repl b (b - m)))) (hd : SDesc ds) :
    IsSh (trim (shapeD ds)) ∧ (∀ r, cls m r (trim (shapeD ds)) = cls m r s) ∧ (trim (shapeD ds)).sum + m = s.sum := by
  have hlen : ds.length = s.length := by rw [hp.length_eq, List.length_map, beads_len]
  have hl : (shapeD ds).length = s.length := by rw [shapeD_len, hlen]
  have hsd := beads_desc s hs.desc
  have hnd : (beads s).Nodup := hsd.imp fun h => Nat.ne_of_gt h
  refine ⟨⟨trim_desc (shapeD_desc ds hd), trim_pos _, ?_⟩, fun r => ?_, ?_⟩
  · have := trim_len (shapeD ds); have := hs.len; omega
  · unfold cls
    rw [PB_trim (shapeD_desc ds hd) (by rw [hl]; exact hs.len), beads_pad, beads_shapeD ds hd, hl]
    unfold PB
    rw [beads_pad, cnt_append, cnt_append]
    congr 1
    rw [cnt_perm m r (hp.map _), List.map_map]
    refine cnt_map m r _ fun o ho => ?_
    show (repl b (b - m) o + _) % m = (o + _) % m
    unfold repl
    split
    · rename_i e
      subst e
      have : o + (40 - s.length) = (o - m + (40 - s.length)) + m := by omega
      rw [this, Nat.add_mod_right]
    · rfl
  · have h1 := beads_sum (shapeD ds)
    rw [beads_shapeD ds hd, hl] at h1
    have h2 := beads_sum s
    have h3 := repl_sum b m hm (beads s) hnd hb
    have h4 : ds.sum = ((beads s).map (repl b (b - m))).sum := hp.sum_nat
    rw [trim_sum]
    omega
/-! ### one shape for a class -/
def Stuck (m : Nat) (s : List Nat) : Prop := ∀ b ∈ beads s, m ≤ b → b - m ∈ beads s
theorem stuck_pad {m : Nat} {s : List Nat} (h : Stuck m s) : ∀ x ∈ PB s, m ≤ x → x - m ∈ PB s := by
  intro x hx hm
  unfold PB at hx ⊢
  rw [beads_pad, List.mem_append] at hx ⊢
  rcases hx with hx | hx
  · obtain ⟨b, hb, rfl⟩ := List.mem_map.mp hx
    by_cases e : m ≤ b
    · exact .inl (List.mem_map.mpr ⟨b - m, h b hb e, by omega⟩)
    · exact .inr ((mem_down _ _).mpr (by omega))
  · have := (mem_down _ _).mp hx
    exact .inr ((mem_down _ _).mpr (by omega))
theorem len_le_of_sub : ∀ (a b : List Nat), a.Nodup → (∀ x ∈ a, x ∈ b) → a.length ≤ b.length
  | [], b, _, _ => Nat.zero_le _
  | x :: a, b, hn, h => by
    (obtain ⟨h1, h2⟩ := List.nodup_cons.mp hn)
    have hx := h x (by simp)
    have ih := len_le_of_sub a (b.erase x) h2 fun y hy => (List.mem_erase_of_ne (fun z : y = x => h1 (z ▸ hy))).mpr (h y (by simp [hy]))
    rw [List.length_erase_of_mem hx] at ih
    have : 0 < b.length := List.length_pos_of_mem hx
    simp; omega
theorem low_iff {l : List Nat} (hn : l.Nodup) (hd : ∀ q, q + 1 ∈ l → q ∈ l) (q : Nat) : q ∈ l ↔ q < l.length := by
  have down1 : ∀ k x, x + k ∈ l → x ∈ l := by
    intro k
    induction k with
    | zero => intro x h; exact h
    | succ k ih => intro x h; exact ih x (hd _ h)
  have rng : ∀ n, (List.range n).Nodup := fun n => List.nodup_range
  constructor
  · intro h
    have := len_le_of_sub (List.range (q + 1)) l (rng _) fun x hx => by
      rw [List.mem_range] at hx
      have e : x + (q - x) = q := by omega
      exact down1 (q - x) x (by rw [e]; exact h)
    rw [List.length_range] at this
    omega
  · intro h
    refine Classical.byContradiction fun hq => ?_
    have := len_le_of_sub l (List.range q) hn fun x hx => by
      rw [List.mem_range]
      refine Classical.byContradiction fun hxq => hq (down1 (x - q) q ?_)
      have : q + (x - q) = x := by omega
      rw [this]; exact hx
    rw [List.length_range] at this
    omega
theorem mem_cls {m : Nat} (hm : 0 < m) {l : List Nat} (hn : l.Nodup) (hd : ∀ x ∈ l, m ≤ x → x - m ∈ l) (x : Nat) : x ∈ l ↔ x / m < cnt m (x % m) l := by
  have key : ∀ r, r < m → ∀ q, (r + q * m ∈ l ↔ q < cnt m r l) := by
    intro r hr q
    let L := (l.filter fun x => x % m == r).map (· / m)
    have hmem : ∀ q, q ∈ L ↔ r + q * m ∈ l := by
      intro q
      constructor
      · intro h
        obtain ⟨x, hx, e⟩ := List.mem_map.mp h
        obtain ⟨h1, h2⟩ := List.mem_filter.mp hx
        have h3 : x % m = r := by simpa using h2
        have : r + q * m = x := by rw [← e, ← h3, Nat.mul_comm]; exact Nat.mod_add_div x m
        rw [this]; exact h1
      · intro h
        refine List.mem_map.mpr ⟨r + q * m, List.mem_filter.mpr ⟨h, ?_⟩, ?_⟩
        · simp [Nat.add_mul_mod_self_right, Nat.mod_eq_of_lt hr]
        · show (r + q * m) / m = q
          rw [Nat.add_mul_div_right _ _ hm, Nat.div_eq_of_lt hr, Nat.zero_add]
    have hnd : L.Nodup := by
      refine List.pairwise_map.mpr ?_
      have h1 : (l.filter fun x => x % m == r).Nodup := hn.filter _
      refine List.Pairwise.imp_of_mem ?_ h1
      intro a b ha hb hab e
      have h2 : a % m = r := by simpa using (List.mem_filter.mp ha).2
      have h3 : b % m = r := by simpa using (List.mem_filter.mp hb).2
      apply hab
      have e1 := Nat.mod_add_div a m
      have e2 := Nat.mod_add_div b m
      rw [h2] at e1
      rw [h3] at e2
      rw [← e1, ← e2, e]
    have hlen : L.length = cnt m r l := by unfold cnt; rw [List.length_map]
    rw [← hmem q, ← hlen]
    refine low_iff hnd (fun q hq => ?_) q
    rw [hmem] at hq ⊢
    have := hd _ hq (by rw [Nat.succ_mul]; omega)
    have e : r + (q + 1) * m - m = r + q * m := by rw [Nat.succ_mul]; omega
    rwa [e] at this
  have e := key (x % m) (Nat.mod_lt x hm) (x / m)
  have ex : x % m + x / m * m = x := by rw [Nat.mul_comm]; exact Nat.mod_add_div x m
  rw [ex] at e
  exact e
theorem sdesc_ext : ∀ (a b : List Nat), SDesc a → SDesc b → (∀ x, x ∈ a ↔ x ∈ b) → a = b
  | [], [], _, _, _ => rfl
  | [], y :: b, _, _, h => by have := (h y).mpr (by simp); cases this
  | x :: a, [], _, _, h => by have := (h x).mp (by simp); cases this
  | x :: a, y :: b, ha, hb, h => by
    obtain ⟨h1, h2⟩ := List.pairwise_cons.mp ha
    obtain ⟨h3, h4⟩ := List.pairwise_cons.mp hb
    have e : x = y := by
      have p1 := (h x).mp (by simp)
      have p2 := (h y).mpr (by simp)
      rcases List.mem_cons.mp p1 with e | p1
      · exact e
      · rcases List.mem_cons.mp p2 with e | p2
        · exact e.symm
        · have := h3 x p1; have := h1 y p2; omega
    subst e
    congr 1
    refine sdesc_ext a b h2 h4 fun z => ⟨fun hz => ?_, fun hz => ?_⟩
    · rcases List.mem_cons.mp ((h z).mp (by simp [hz])) with e | w
      · have := h1 z hz; omega
      · exact w
    · rcases List.mem_cons.mp ((h z).mpr (by simp [hz])) with e | w
      · have := h3 z hz; omega
      · exact w
theorem pad_desc {s : List Nat} (h : Desc s) (k : Nat) : Desc (s ++ List.replicate k 0) := by
  refine List.pairwise_append.mpr ⟨h, ?_, fun a _ b hb => ?_⟩
  · exact List.pairwise_replicate.mpr (.inr (Nat.le_refl _))
  · rw [(List.mem_replicate.mp hb).2]; exact Nat.zero_le _
theorem unique {m : Nat} (hm : 0 < m) {s c : List Nat} (hs : IsSh s) (hc : IsSh c) (ss : Stuck m s) (sc : Stuck m c) (h : ∀ r, cls m r s = cls m r c) : s = c := by
  have d1 : SDesc (PB s) := beads_desc _ (pad_desc hs.desc _)
  have d2 : SDesc (PB c) := beads_desc _ (pad_desc hc.desc _)
  have n1 : (PB s).Nodup := d1.imp fun h => Nat.ne_of_gt h
  have n2 : (PB c).Nodup := d2.imp fun h => Nat.ne_of_gt h
  have e : PB s = PB c := sdesc_ext _ _ d1 d2 fun x => by
    rw [mem_cls hm n1 (stuck_pad ss), mem_cls hm n2 (stuck_pad sc)]
    have := h (x % m)
    unfold cls at this
    rw [this]
  have e2 := congrArg (fun l => trim (shapeD l)) e
  simp only [PB, shapeD_beads, trim_rep] at e2
  rwa [trim_id hs.pos, trim_id hc.pos] at e2
/-! ### hooks -/
def tall (j : Nat) (s : List Nat) : Nat := (s.filter (j < ·)).length
theorem tall_le (j : Nat) (s : List Nat) : tall j s ≤ s.length := List.length_filter_le _ _
theorem gap_ok (j : Nat) : ∀ s : List Nat, Desc s → s.length + j - tall j s ∉ beads s
  | [], _, h => by cases h
  | p :: r, hd, h => by
    obtain ⟨h1, h2⟩ := List.pairwise_cons.mp hd
    by_cases hp : j < p
    · have e : tall j (p :: r) = tall j r + 1 := by simp [tall, hp]
      rw [e] at h
      have ih := gap_ok j r h2
      have hl := tall_le j r
      have e2 : (p :: r).length + j - (tall j r + 1) = r.length + j - tall j r := by simp; omega
      rw [e2, beads, List.mem_cons] at h
      rcases h with h | h
      · omega
      · exact ih h
    · have e : tall j (p :: r) = 0 := by
        unfold tall
        rw [List.length_eq_zero_iff, List.filter_eq_nil_iff]
        intro a ha
        (rcases List.mem_cons.mp ha with rfl | ha)
        · simpa using hp
        · have := h1 a ha; simp; omega
      have h3 := beads_lt (p := p) (p :: r) (fun q hq => by rcases List.mem_cons.mp hq with rfl | hq; exact Nat.le_refl _; exact h1 q hq) _ h
      rw [e] at h3
      simp at h3
      omega
theorem bead_at : ∀ (s : List Nat) (i : Nat) (h : i < s.length), s[i] + (s.length - 1 - i) ∈ beads s
  | p :: r, 0, _ => by simp [beads]
  | p :: r, i + 1, h => by
    have h' : i < r.length := by simpa using h
    have := bead_at r i h'
    rw [beads]
    refine List.mem_cons_of_mem _ ?_
    have e : (p :: r).length - 1 - (i + 1) = r.length - 1 - i := by simp; omega
    rw [e, List.getElem_cons_succ]
    exact this
theorem tall_gt (j : Nat) : ∀ (s : List Nat) (i : Nat) (h : i < s.length), Desc s → j < s[i] → i < tall j s
  | p :: r, 0, _, _, h => by
    have hp : j < p := h
    simp [tall, hp]
  | p :: r, i + 1, hi, hd, h => by
    obtain ⟨h1, h2⟩ := List.pairwise_cons.mp hd
    have h' : i < r.length := by simpa using hi
    have hr : j < r[i] := by simpa using h
    have ih := tall_gt j r i h' h2 hr
    have hp : j < p := Nat.lt_of_lt_of_le hr (h1 _ (List.getElem_mem h'))
    have e : tall j (p :: r) = tall j r + 1 := by simp [tall, hp]
    omega
theorem no_hook {m : Nat} (hm : 0 < m) {s : List Nat} (hs : Desc s) (ss : Stuck m s) (i j : Nat) (hi : i < s.length) (hj : j < s[i]) : ((s[i] : Int) - (j : Int) + (tall j s : Int) - (i : Int) - 1) % (m : Int) ≠ 0 := by
  intro h
  have h1 := tall_gt j s i hi hs hj
  have h2 := tall_le j s
  have hb := bead_at s i hi
  have hgap := gap_ok j s hs
  obtain ⟨hk, he⟩ : ∃ k : Nat, s[i] + (s.length - 1 - i) = (s.length + j - tall j s) + k * m := by
    have hd : (m : Int) ∣ ((s[i] : Int) - (j : Int) + (tall j s : Int) - (i : Int) - 1) := Int.dvd_of_emod_eq_zero h
    obtain ⟨c, hc⟩ := hd
    have hc0 : 0 ≤ c := by
      refine Classical.byContradiction fun hneg => ?_
      have : (m : Int) * c ≤ (m : Int) * (-1) := Int.mul_le_mul_of_nonneg_left (by omega) (by omega)
      omega
    refine ⟨c.toNat, ?_⟩
    have e1 : (c.toNat : Int) = c := Int.toNat_of_nonneg hc0
    have e2 : ((c.toNat * m : Nat) : Int) = (m : Int) * c := by rw [Int.natCast_mul, e1, Int.mul_comm]
    omega
  have walk : ∀ (t g : Nat), g + t * m ∈ beads s → g ∈ beads s := by
    intro t
    induction t with
    | zero => intro g hg; simpa using hg
    | succ t ih =>
      intro g hg
      refine ih g ?_
      have := ss _ hg (by rw [Nat.succ_mul]; omega)
      have e : g + (t + 1) * m - m = g + t * m := by rw [Nat.succ_mul]; omega
      rwa [e] at this
  rw [he] at hb
  exact hgap (walk _ _ hb)
end K60
set_option Elab.async false
set_option linter.all false
set_option maxRecDepth 100000
set_option maxHeartbeats 10000001
/-! what the program's functions do to any shape -/
namespace K60
open PySem PySem.Spec PyProof.Rows L2 J
def natsP (l : List Nat) : List PV := l.map fun (n : Nat) => PV.int (n : Int)
def tI (l : List Nat) : PV := .tup (natsP l)
theorem natsP_cons (a : Nat) (l : List Nat) : natsP (a :: l) = .int (a : Int) :: natsP l := rfl
theorem natsP_len (l : List Nat) : (natsP l).length = l.length := List.length_map _
theorem enum_len : ∀ (xs : List PV) (i : Nat), (enumP i xs).length = xs.length
  | [], _ => rfl
  | x :: r, i => by rw [enumP, List.length_cons, enum_len r, List.length_cons]
theorem lcL_yes {g : GN} {t : FT} {e : FE} {x y : PV} {r ys : List PV} {env en : J.Env} {S S1 S2 S3 : Sto} (h1 : g x env = some en) (h2 : t en S = .ok (true, S1)) (h3 : e en S1 = .ok (y, S2)) (h4 : lcL g t e r env S2 = .ok (ys, S3)) : lcL g t e (x :: r) env S = .ok (y :: ys, S3) := by
  rw [lcL]
  simp only [h1, ofO, Res.bind, h2, if_true, h3, h4]
theorem lcL_no {g : GN} {t : FT} {e : FE} {x : PV} {r ys : List PV} {env en : J.Env} {S S1 S3 : Sto} (h1 : g x env = some en) (h2 : t en S = .ok (false, S1)) (h4 : lcL g t e r env S1 = .ok (ys, S3)) : lcL g t e (x :: r) env S = .ok (ys, S3) := by
  rw [lcL]
  simp only [h1, ofO, Res.bind, h2, h4]
  rfl
/-! beads_of -/
theorem beads_lc (s : List Nat) (S : Sto) : ∀ (l : List Nat) (i : Nat), i + l.length = s.length →
    lcL (gT 2 (gNc (gN 1) (gNc (gN 2) gNn))) tT (eOp pSub (eOp pSub (eOp pAdd (eV 2) (eUn pLen (eV 0))) (eC (.int 1))) (eV 1)) (enumP i (natsP l)) [.val (tI s), .un, .un] S = .ok (natsP (beads l), S)
  | [], i, _ => rfl
  | p :: r, i, h => by
    rw [natsP_cons, enumP]
    refine lcL_yes (en := [.val (tI s), .val (.int i), .val (.int p)]) rfl rfl ?_ (beads_lc s S r (i + 1) (by simp at h; omega))
    have e : pLen (tI s) = some (.int (s.length : Int)) := by show some (PV.int ((natsP s).length : Int)) = _; rw [natsP_len]
    have e2 : ((p : Int) + (s.length : Int) - 1 - (i : Int)) = ((p + r.length : Nat) : Int) := by simp at h; omega
    refine eOp_ok (eOp_ok (eOp_ok (x := .int p) rfl (un_eq (x := tI s) rfl e) (z := .int (p + s.length)) rfl) rfl (z := .int (p + s.length - 1)) rfl) (y := .int i) rfl ?_
    show some (PV.int _) = some (PV.int _)
    rw [e2]
theorem beads_ok (s : List Nat) (hl : s.length ≤ 40) (S : Sto) : f_beads_of [tI s] S = .ok (.lst (natsP (beads s)), S) :=
  runF_rt (sRet_ok (lc_eq (xs := enumP 0 (natsP s)) (S1 := S) rfl (by rw [enum_len, natsP_len]; omega) (beads_lc s S s 0 (by omega))))
/-! trimmed -/
theorem trim_lc (a0 : Slot) (S : Sto) : ∀ l : List Nat, lcL (gN 1) (tV (eOp pGt (eV 1) (eC (.int 0)))) (eV 1) (natsP l) [a0, .un] S = .ok (natsP (trim l), S)
  | [] => rfl
  | p :: r => by
    rw [natsP_cons]
    by_cases hp : 0 < p
    · have e : trim (p :: r) = p :: trim r := by simp [trim, hp]
      rw [e, natsP_cons]
      refine lcL_yes (en := [a0, .val (.int p)]) rfl ?_ rfl (trim_lc a0 S r)
      simp [tV, eOp, eV, eC, pCmp, Res.bind, ofO, hp]
    · have e : trim (p :: r) = trim r := by simp [trim, hp]
      rw [e]
      refine lcL_no (en := [a0, .val (.int p)]) rfl ?_ (trim_lc a0 S r)
      have : p = 0 := by omega
      simp [tV, eOp, eV, eC, pCmp, Res.bind, ofO, this]
theorem trimmed_ok (l : List Nat) (hl : l.length ≤ 40) (S : Sto) : f_trimmed [.lst (natsP l)] S = .ok (tI (trim l), S) :=
  runF_rt (sRet_ok (un_eq (lc_eq (xs := natsP l) (S1 := S) rfl (by rw [natsP_len]; omega) (trim_lc _ S l)) rfl))
/-! sorted -/
def nins (x : Nat) : List Nat → List Nat
  | [] => [x]
  | y :: r => if y < x then y :: nins x r else x :: y :: r
def nsort : List Nat → List Nat
  | [] => []
  | x :: r => nins x (nsort r)
theorem nins_perm (x : Nat) : ∀ l, (nins x l).Perm (x :: l)
  | [] => .refl _
  | y :: r => by
    unfold nins
    split
    · exact ((nins_perm x r).cons y).trans (.swap x y r)
    · exact .refl _
theorem nsort_perm : ∀ l, (nsort l).Perm l
  | [] => .refl _
  | x :: r => (nins_perm x _).trans ((nsort_perm r).cons x)
theorem nins_asc (x : Nat) : ∀ l : List Nat, l.Pairwise (· < ·) → x ∉ l → (nins x l).Pairwise (· < ·)
  | [], _, _ => by simp [nins]
  | y :: r, h, hx => by
    (obtain ⟨h1, h2⟩ := List.pairwise_cons.mp h)
    have hxy : x ≠ y := fun e => hx (by simp [e])
    unfold nins
    split
    · rename_i hlt
      refine List.pairwise_cons.mpr ⟨fun z hz => ?_, nins_asc x r h2 (fun z => hx (by simp [z]))⟩
      rcases List.mem_cons.mp ((nins_perm x r).mem_iff.mp hz) with e | hz
      · omega
      · exact h1 z hz
    · rename_i hge
      refine List.pairwise_cons.mpr ⟨fun z hz => ?_, h⟩
      (rcases List.mem_cons.mp hz with e | hz)
      · omega
      · have := h1 z hz; omega
theorem nsort_asc : ∀ l : List Nat, l.Nodup → (nsort l).Pairwise (· < ·)
  | [], _ => .nil
  | x :: r, h => by
    (obtain ⟨h1, h2⟩ := List.nodup_cons.mp h)
    exact nins_asc x _ (nsort_asc r h2) (fun z => h1 ((nsort_perm r).mem_iff.mp z))
def dsort (l : List Nat) : List Nat := (nsort l).reverse
theorem dsort_perm (l : List Nat) : (dsort l).Perm l := (List.reverse_perm _).trans (nsort_perm l)
theorem dsort_desc {l : List Nat} (h : l.Nodup) : SDesc (dsort l) := List.pairwise_reverse.mpr (nsort_asc l h)
theorem insP_ints (x : Nat) : ∀ l : List Nat, insP ltP (.int x) (natsP l) = natsP (nins x l)
  | [] => rfl
  | y :: r => by
    rw [natsP_cons, insP, nins]
    have e : ltP (.int (y : Int)) (.int (x : Int)) = decide ((y : Int) < (x : Int)) := by simp [J.ltP]
    rw [e]
    by_cases h : y < x
    · have h' : (y : Int) < (x : Int) := by omega
      rw [if_pos h, if_pos (decide_eq_true h'), insP_ints x r]; rfl
    · have h' : ¬ (y : Int) < (x : Int) := by omega
      rw [if_neg h, if_neg (by rw [decide_eq_true_eq]; exact h')]; rfl
theorem isort_ints : ∀ l : List Nat, isort ltP (natsP l) = natsP (nsort l)
  | [] => rfl
  | x :: r => by rw [natsP_cons, isort, isort_ints r, insP_ints]; rfl
theorem hasTy_ints (l : List Nat) : (natsP l).all (hasTy .int) = true := by
  rw [List.all_eq_true]
  intro x hx
  obtain ⟨n, _, rfl⟩ := List.mem_map.mp hx
  simp [hasTy]
theorem srt_ints (l : List Nat) (hl : l.length ≤ 40) : pSrt .int (.lst (natsP l)) = some (.lst (natsP (nsort l))) := by
  have h : srtOk .int (natsP l) = true := by
    unfold srtOk
    simp only [Bool.and_eq_true, Bool.or_eq_true, decide_eq_true_eq, List.all_eq_true]
    refine ⟨by rw [natsP_len]; omega, fun x hx => ?_, by decide, .inr fun x hx => ?_⟩
    · obtain ⟨n, _, rfl⟩ := List.mem_map.mp hx
      simp [hasTy]
    · obtain ⟨n, _, rfl⟩ := List.mem_map.mp hx
      rfl
  show (if srtOk .int (natsP l) then _ else _) = _
  rw [if_pos h, isort_ints]
/-! shape_of_beads -/
def mk (bs : List Nat) : List Nat := trim (shapeD (dsort bs))
theorem shape_lc (ds : List Nat) (a0 : Slot) (S : Sto) : ∀ (l : List Nat) (i : Nat), i + l.length = ds.length → SDesc l →
    lcL (gT 2 (gNc (gN 2) (gNc (gN 3) gNn))) tT (eOp pAdd (eOp pAdd (eOp pSub (eV 3) (eUn pLen (eV 1))) (eC (.int 1))) (eV 2)) (enumP i (natsP l)) [a0, .val (.lst (natsP ds)), .un, .un] S = .ok (natsP (shapeD l), S)
  | [], i, _, _ => rfl
  | p :: r, i, h, hd => by
    rw [natsP_cons, enumP]
    have hge := sdesc_ge r p hd
    refine lcL_yes (en := [a0, .val (.lst (natsP ds)), .val (.int i), .val (.int p)]) rfl rfl ?_ (shape_lc ds a0 S r (i + 1) (by simp at h; omega) (List.pairwise_cons.mp hd).2)
    have e : pLen (.lst (natsP ds)) = some (.int (ds.length : Int)) := by show some (PV.int ((natsP ds).length : Int)) = _; rw [natsP_len]
    have e2 : ((p : Int) - (ds.length : Int) + 1 + (i : Int)) = ((p - r.length : Nat) : Int) := by simp at h; omega
    refine eOp_ok (eOp_ok (eOp_ok (x := .int p) rfl (un_eq (x := .lst (natsP ds)) rfl e) (z := .int (p - ds.length)) rfl) rfl (z := .int (p - ds.length + 1)) rfl) (y := .int i) rfl ?_
    show some (PV.int _) = some (PV.int _)
    rw [e2]
theorem shape_ok (bs : List Nat) (hn : bs.Nodup) (hl : bs.length ≤ 40) (S : Sto) : f_shape_of_beads [.lst (natsP bs)] S = .ok (tI (mk bs), S) := by
  have hd := dsort_desc hn
  have hdl : (dsort bs).length = bs.length := (dsort_perm bs).length_eq
  have e1 : sSet 1 (eUn pRev (eUn (pSrt .int) (eV 0))) [.val (.lst (natsP bs)), .un, .un, .un] S = .ok (.nx [.val (.lst (natsP bs)), .val (.lst (natsP (dsort bs))), .un, .un] S) := by
    refine sSet_ok (un_eq (x := .lst (natsP (nsort bs))) (un_eq (x := .lst (natsP bs)) rfl (srt_ints bs hl)) ?_)
    show some (PV.lst (natsP (nsort bs)).reverse) = _
    unfold natsP dsort
    rw [List.map_reverse]
  refine runF_rt ((sSeq_nx e1).trans (sRet_ok (eCall_ok (xs := [.lst (natsP (shapeD (dsort bs)))]) (S1 := S) (aCons_ok (lc_eq (xs := enumP 0 (natsP (dsort bs))) (S1 := S) rfl (by rw [enum_len, natsP_len]; omega) (shape_lc (dsort bs) _ S (dsort bs) 0 (by omega) hd)) rfl) (trimmed_ok _ (by rw [shapeD_len]; omega) S))))
/-! natsP in lists -/
theorem isDL_ints : ∀ l : List Nat, isDL (natsP l) = true
  | [] => by simp [natsP, isDL]
  | a :: r => by rw [natsP_cons, isDL, isDL_ints r]; simp [isD]
theorem dpPL_ints : ∀ l : List Nat, dpPL (natsP l) = 0
  | [] => by simp [natsP, dpPL]
  | a :: r => by rw [natsP_cons, dpPL, dpPL_ints r]; simp [dpP]
theorem dOK_lst (l : List Nat) : dOK (.lst (natsP l)) = true := by simp [dOK, isD, dpP, isDL_ints, dpPL_ints]
theorem dOK_tI (l : List Nat) : dOK (tI l) = true := by simp [tI, dOK, isD, dpP, isDL_ints, dpPL_ints]
theorem dOK_int (i : Int) : dOK (.int i) = true := by simp [dOK, isD, dpP]
theorem inP_ints (g : Nat) : ∀ l : List Nat, inP (.int (g : Int)) (natsP l) = decide (g ∈ l)
  | [] => by simp [natsP, inP]
  | a :: r => by
    rw [natsP_cons, inP, inP_ints g r]
    by_cases h : g = a
    · subst h; simp [eqP]
    · have h' : ¬ (a : Int) = (g : Int) := by omega
      simp [eqP, h, h']
theorem notIn_ok (g : Nat) (l : List Nat) : pNotIn (.int (g : Int)) (.lst (natsP l)) = some (.bl (!decide (g ∈ l))) := by
  unfold pNotIn inPV
  dsimp only
  rw [dOK_int, dOK_lst]
  simp [inP_ints]
end K60
set_option Elab.async false
set_option linter.all false
set_option maxRecDepth 100000
set_option maxHeartbeats 10000001
namespace K60
open PySem PySem.Spec PyProof.Rows L2 J
def hgt (s : List Nat) (m b : Nat) : Nat := ((beads s).filter fun o => decide (b - m < o) && decide (o < b)).length
def lft (s : List Nat) (m b : Nat) : List Nat := mk ((beads s).map (repl b (b - m)))
def mv (s : List Nat) (m b : Nat) : PV := .tup [tI (lft s m b), .int (hgt s m b)]
def can (s : List Nat) (m b : Nat) : Bool := decide (m ≤ b) && !decide (b - m ∈ beads s)
def moves (s : List Nat) (m : Nat) : List PV := ((beads s).filter (can s m)).map (mv s m)
def WBody : FS := (sSeq (sSet 5 (eOp pSub (eV 2) (eV 1))) (sIf (tAn (tV (eOp pGe (eV 5) (eC (.int 0)))) (tV (eOp pNotIn (eV 5) (eV 3)))) (sSeq (sSet 6 (eUn pLen (eLc [7] (iSeq (eV 3)) (gN 7) (tV (eChain pLt pLt (eV 5) (eV 7) (eV 2))) (eV 7)))) (sApp 4 (eB pTup (aCons (eCall f_shape_of_beads (aCons (eLc [7] (iSeq (eV 3)) (gN 7) tT (eIf (tV (eOp pEq (eV 7) (eV 2))) (eV 5) (eV 7))) aNil)) (aCons (eV 6) aNil))))) sNext))
theorem without_is : F_without_ribbons = sSeq (sParEF 3 4 (eCall f_beads_of (aCons (eV 0) aNil)) (eB pLst aNil)) (sSeq (sFor (iSeq (eV 3)) (gN 2) WBody) (sFrz 4 (sRet (eV 4)))) := rfl
theorem hgt_lc (g b : Nat) (a0 a1 a3 a4 a6 : Slot) (S : Sto) : ∀ l : List Nat,
    lcL (gN 7) (tV (eChain pLt pLt (eV 5) (eV 7) (eV 2))) (eV 7) (natsP l) [a0, a1, .val (.int b), a3, a4, .val (.int g), a6, .un] S = .ok (natsP (l.filter fun o => decide (g < o) && decide (o < b)), S)
  | [] => rfl
  | o :: r => by
    rw [natsP_cons]
    have ih := hgt_lc g b a0 a1 a3 a4 a6 S r
    by_cases h1 : g < o
    · by_cases h2 : o < b
      · have e : (o :: r).filter (fun o => decide (g < o) && decide (o < b)) = o :: r.filter (fun o => decide (g < o) && decide (o < b)) := by simp [h1, h2]
        rw [e, natsP_cons]
        refine lcL_yes (en := [a0, a1, .val (.int b), a3, a4, .val (.int g), a6, .val (.int o)]) rfl ?_ rfl ih
        simp [tV, eChain, eV, pCmp, Res.bind, ofO, h1, h2]
      · have e : (o :: r).filter (fun o => decide (g < o) && decide (o < b)) = r.filter (fun o => decide (g < o) && decide (o < b)) := by simp [h2]
        rw [e]
        refine lcL_no (en := [a0, a1, .val (.int b), a3, a4, .val (.int g), a6, .val (.int o)]) rfl ?_ ih
        simp [tV, eChain, eV, pCmp, Res.bind, ofO, h1]
        omega
    · have e : (o :: r).filter (fun o => decide (g < o) && decide (o < b)) = r.filter (fun o => decide (g < o) && decide (o < b)) := by simp [h1]
      rw [e]
      refine lcL_no (en := [a0, a1, .val (.int b), a3, a4, .val (.int g), a6, .val (.int o)]) rfl ?_ ih
      simp [tV, eChain, eV, pCmp, Res.bind, ofO, h1]
theorem repl_lc (g b : Nat) (a0 a1 a3 a4 a6 : Slot) (S : Sto) : ∀ l : List Nat,
    lcL (gN 7) tT (eIf (tV (eOp pEq (eV 7) (eV 2))) (eV 5) (eV 7)) (natsP l) [a0, a1, .val (.int b), a3, a4, .val (.int g), a6, .un] S = .ok (natsP (l.map (repl b g)), S)
  | [] => rfl
  | o :: r => by
    rw [natsP_cons, List.map_cons, natsP_cons]
    refine lcL_yes (en := [a0, a1, .val (.int b), a3, a4, .val (.int g), a6, .val (.int o)]) rfl rfl ?_ (repl_lc g b a0 a1 a3 a4 a6 S r)
    by_cases h : o = b
    · subst h
      simp [eIf, tV, eOp, eV, pEq, dOK_int, eqP, Res.bind, ofO, repl]
    · have h' : ¬ (o : Int) = (b : Int) := by omega
      simp [eIf, tV, eOp, eV, pEq, dOK_int, eqP, Res.bind, ofO, repl, h, h']
theorem body_no (s : List Nat) (m b : Nat) (acc : List PV) (a5 a6 a7 : Slot) (S : Sto) (hc : can s m b = false) :
    WBody [.val (tI s), .val (.int m), .val (.int b), .val (.lst (natsP (beads s))), .own (.lst acc), a5, a6, a7] S = .ok (.nx [.val (tI s), .val (.int m), .val (.int b), .val (.lst (natsP (beads s))), .own (.lst acc), .val (.int ((b : Int) - m)), a6, a7] S) := by
  have e1 : sSet 5 (eOp pSub (eV 2) (eV 1)) [.val (tI s), .val (.int m), .val (.int b), .val (.lst (natsP (beads s))), .own (.lst acc), a5, a6, a7] S = .ok (.nx [.val (tI s), .val (.int m), .val (.int b), .val (.lst (natsP (beads s))), .own (.lst acc), .val (.int ((b : Int) - m)), a6, a7] S) := rfl
  refine (sSeq_nx e1).trans ?_
  by_cases h : m ≤ b
  · have hin : b - m ∈ beads s := by simpa [can, h] using hc
    have hg : ((b : Int) - (m : Int)) = ((b - m : Nat) : Int) := by omega
    have hn := notIn_ok (b - m) (beads s)
    rw [← hg] at hn
    have h0 : (0 : Int) ≤ (b : Int) - m := by omega
    simp [sIf, tAn, tV, eOp, eV, eC, pCmp, Res.bind, ofO, h0, hn, hin, sNext, h]
  · have h0 : ¬ (0 : Int) ≤ (b : Int) - m := by omega
    simp [sIf, tAn, tV, eOp, eV, eC, pCmp, Res.bind, ofO, h0, sNext, h]
theorem body_yes (s : List Nat) (m b : Nat) (acc : List PV) (a5 a6 a7 : Slot) (S : Sto) (hs : IsSh s) (hacc : acc.length < 1000000) (hc : can s m b = true) :
    WBody [.val (tI s), .val (.int m), .val (.int b), .val (.lst (natsP (beads s))), .own (.lst acc), a5, a6, a7] S = .ok (.nx [.val (tI s), .val (.int m), .val (.int b), .val (.lst (natsP (beads s))), .own (.lst (acc ++ [mv s m b])), .val (.int ((b - m : Nat) : Int)), .val (.int (hgt s m b)), a7] S) := by
  have hcs : m ≤ b ∧ b - m ∉ beads s := by simpa [can] using hc
  obtain ⟨h, hin⟩ := hcs
  have hg : ((b : Int) - (m : Int)) = ((b - m : Nat) : Int) := by omega
  have e1 : sSet 5 (eOp pSub (eV 2) (eV 1)) [.val (tI s), .val (.int m), .val (.int b), .val (.lst (natsP (beads s))), .own (.lst acc), a5, a6, a7] S = .ok (.nx [.val (tI s), .val (.int m), .val (.int b), .val (.lst (natsP (beads s))), .own (.lst acc), .val (.int ((b - m : Nat) : Int)), a6, a7] S) := by
    rw [← hg]; rfl
  refine (sSeq_nx e1).trans ?_
  have hn := notIn_ok (b - m) (beads s)
  have hcond : (tAn (tV (eOp pGe (eV 5) (eC (.int 0)))) (tV (eOp pNotIn (eV 5) (eV 3)))) [.val (tI s), .val (.int m), .val (.int b), .val (.lst (natsP (beads s))), .own (.lst acc), .val (.int ((b - m : Nat) : Int)), a6, a7] S = .ok (true, S) := by
    have h0 : (0 : Int) ≤ ((b - m : Nat) : Int) := by omega
    simp [tAn, tV, eOp, eV, eC, pCmp, Res.bind, ofO, hn, hin]
  have hbl : (beads s).length ≤ 40 := by rw [beads_len]; exact hs.len
  have hnd : (beads s).Nodup := (beads_desc s hs.desc).imp fun h => Nat.ne_of_gt h
  have e2 : sSet 6 (eUn pLen (eLc [7] (iSeq (eV 3)) (gN 7) (tV (eChain pLt pLt (eV 5) (eV 7) (eV 2))) (eV 7))) [.val (tI s), .val (.int m), .val (.int b), .val (.lst (natsP (beads s))), .own (.lst acc), .val (.int ((b - m : Nat) : Int)), a6, a7] S = .ok (.nx [.val (tI s), .val (.int m), .val (.int b), .val (.lst (natsP (beads s))), .own (.lst acc), .val (.int ((b - m : Nat) : Int)), .val (.int (hgt s m b)), a7] S) := by
    refine sSet_ok (un_eq (lc_eq (xs := natsP (beads s)) (S1 := S) rfl (by rw [natsP_len]; omega) (hgt_lc (b - m) b _ _ _ _ _ S (beads s))) ?_)
    show some (PV.int ((natsP _).length : Int)) = _
    rw [natsP_len]; rfl
  have e3 : (eB pTup (aCons (eCall f_shape_of_beads (aCons (eLc [7] (iSeq (eV 3)) (gN 7) tT (eIf (tV (eOp pEq (eV 7) (eV 2))) (eV 5) (eV 7))) aNil)) (aCons (eV 6) aNil))) [.val (tI s), .val (.int m), .val (.int b), .val (.lst (natsP (beads s))), .own (.lst acc), .val (.int ((b - m : Nat) : Int)), .val (.int (hgt s m b)), a7] S = .ok (mv s m b, S) := by
    have ha : (aCons (eCall f_shape_of_beads (aCons (eLc [7] (iSeq (eV 3)) (gN 7) tT (eIf (tV (eOp pEq (eV 7) (eV 2))) (eV 5) (eV 7))) aNil)) (aCons (eV 6) aNil)) [.val (tI s), .val (.int m), .val (.int b), .val (.lst (natsP (beads s))), .own (.lst acc), .val (.int ((b - m : Nat) : Int)), .val (.int (hgt s m b)), a7] S = .ok ([tI (lft s m b), .int (hgt s m b)], S) := by
      refine aCons_ok (eCall_ok (xs := [.lst (natsP ((beads s).map (repl b (b - m))))]) (S1 := S) (aCons_ok (lc_eq (xs := natsP (beads s)) (S1 := S) rfl (by rw [natsP_len]; omega) (repl_lc (b - m) b _ _ _ _ _ S (beads s))) rfl) (shape_ok _ (repl_nodup b (b - m) _ hnd hin) (by rw [List.length_map]; exact hbl) S)) rfl
    unfold eB
    rw [ha]
    rfl
  unfold sIf
  rw [hcond]
  simp only [Res.bind, if_true]
  refine (sSeq_nx e2).trans ?_
  unfold sApp
  rw [e3]
  have hz : acc.length < 1000000 := hacc
  simp [Res.bind, hz]
theorem wloop (s : List Nat) (m : Nat) (hs : IsSh s) (S : Sto) : ∀ (l : List Nat) (acc : List PV) (a2 a5 a6 a7 : Slot), acc.length + l.length ≤ 1000 →
    ∃ b2 b5 b6, forL (gN 2) WBody (natsP l) [.val (tI s), .val (.int m), a2, .val (.lst (natsP (beads s))), .own (.lst acc), a5, a6, a7] S = .ok (.nx [.val (tI s), .val (.int m), b2, .val (.lst (natsP (beads s))), .own (.lst (acc ++ (l.filter (can s m)).map (mv s m))), b5, b6, a7] S)
  | [], acc, a2, a5, a6, a7, _ => ⟨a2, a5, a6, by simp [natsP, forL]⟩
  | b :: r, acc, a2, a5, a6, a7, h => by
    rw [natsP_cons]
    cases hc : can s m b with
    | true =>
      obtain ⟨b2, b5, b6, ih⟩ := wloop s m hs S r (acc ++ [mv s m b]) (.val (.int b)) (.val (.int ((b - m : Nat) : Int))) (.val (.int (hgt s m b))) a7 (by simp at h ⊢; omega)
      refine ⟨b2, b5, b6, (forL_nx rfl (body_yes s m b acc a5 a6 a7 S hs (by simp at h; omega) hc)).trans ?_⟩
      rw [ih]
      simp [hc]
    | false =>
      obtain ⟨b2, b5, b6, ih⟩ := wloop s m hs S r acc (.val (.int b)) (.val (.int ((b : Int) - m))) a6 a7 (by simp at h ⊢; omega)
      refine ⟨b2, b5, b6, (forL_nx rfl (body_no s m b acc a5 a6 a7 S hc)).trans ?_⟩
      rw [ih]
      simp [hc]
theorem without_ok (s : List Nat) (m : Nat) (hs : IsSh s) (S : Sto) : f_without_ribbons [tI s, .int m] S = .ok (.lst (moves s m), S) := by
  have hbl : (beads s).length ≤ 40 := by rw [beads_len]; exact hs.len
  obtain ⟨b2, b5, b6, hl⟩ := wloop s m hs S (beads s) [] .un .un .un .un (by simp; omega)
  refine runF_rt ?_
  rw [without_is]
  have e1 : sParEF 3 4 (eCall f_beads_of (aCons (eV 0) aNil)) (eB pLst aNil) (env0 8 [tI s, .int m]) S = .ok (.nx [.val (tI s), .val (.int m), .un, .val (.lst (natsP (beads s))), .own (.lst []), .un, .un, .un] S) := by
    have h1 : eCall f_beads_of (aCons (eV 0) aNil) (env0 8 [tI s, .int m]) S = .ok (.lst (natsP (beads s)), S) := eCall_ok (xs := [tI s]) (S1 := S) rfl (beads_ok s hs.len S)
    unfold sParEF
    rw [h1]
    rfl
  refine (sSeq_nx e1).trans ?_
  refine (sSeq_nx ((sFor_ok (xs := natsP (beads s)) (S1 := S) rfl hl))).trans ?_
  rfl
end K60
set_option Elab.async false
set_option linter.all false
set_option maxRecDepth 100000
set_option maxHeartbeats 10000001
namespace K60
open PySem PySem.Spec PyProof.Rows L2 J
theorem isnum_ok (x lo hi : Int) (h1 : lo ≤ x) (h2 : x ≤ hi) (S : Sto) : f_is_number [.int x, .int lo, .int hi] S = .ok (.bl true, S) := by
  refine runF_rt (sRet_ok ?_)
  have e1 : pIsT "int" (.int x) = some (.bl true) := rfl
  have e2 : pIsT "bool" (.int x) = some (.bl false) := rfl
  simp [eAnd, eUn, eV, eChain, env0, pCmp, pNot, Res.bind, ofO, e1, e2, h1, h2]
theorem parts_lc (a0 a2 : Slot) (S : Sto) : ∀ l : List Nat, (∀ q ∈ l, 0 < q ∧ q ≤ 40) →
    lcL (gN 3) tT (eCall f_is_number (aCons (eV 3) (aCons (eC (.int 1)) (aCons (eV 1) aNil)))) (natsP l) [a0, .val (.int 40), a2, .un] S = .ok (List.replicate l.length (.bl true), S)
  | [], _ => rfl
  | p :: r, h => by
    rw [natsP_cons, List.length_cons, List.replicate_succ]
    obtain ⟨h1, h2⟩ := h p (by simp)
    exact lcL_yes (en := [a0, .val (.int 40), a2, .val (.int p)]) rfl rfl (eCall_ok (xs := [.int p, .int 1, .int 40]) (S1 := S) rfl (isnum_ok p 1 40 (by omega) (by omega) S)) (parts_lc a0 a2 S r fun q hq => h q (by simp [hq]))
theorem intsP_nats : ∀ l : List Nat, intsP (natsP l) = some (l.map fun (n : Nat) => (n : Int))
  | [] => rfl
  | a :: r => by rw [natsP_cons, intsP, intsP_nats r]; rfl
theorem sum_cast : ∀ l : List Nat, (l.map fun (n : Nat) => (n : Int)).sum = (l.sum : Int)
  | [] => rfl
  | a :: r => by rw [List.map_cons, List.sum_cons, sum_cast r, List.sum_cons]; omega
theorem pSum_tI (l : List Nat) : pSum (tI l) = some (.int (l.sum : Int)) := by
  show (intsP (natsP l)).map _ = _
  rw [intsP_nats]
  show some (PV.int _) = _
  rw [sum_cast]
theorem pLen_tI (l : List Nat) : pLen (tI l) = some (.int (l.length : Int)) := by show some (PV.int ((natsP l).length : Int)) = _; rw [natsP_len]
theorem pIx_tI (l : List Nat) (k : Nat) (h : k < l.length) : pIx (tI l) (.int (k : Int)) = some (.int (l[k] : Int)) := by
  show atI (natsP l) (k : Int) = _
  refine atI_nat ?_
  unfold natsP
  rw [List.getElem?_map, List.getElem?_eq_getElem h]
  rfl
theorem eIx_ok {a b : FE} {env : J.Env} {S S1 S2 : Sto} {l : List Nat} {k : Nat} (ha : a env S = .ok (tI l, S1)) (hb : b env S1 = .ok (.int (k : Int), S2)) (h : k < l.length) : eIx a b env S = .ok (.int (l[k] : Int), S2) := by
  unfold eIx
  rw [ha]
  simp only [Res.bind]
  rw [hb]
  have e := pIx_tI l k h
  unfold tI at e ⊢
  simp only [e, ofO]
theorem bdI_of {j : Int} (h1 : -1000 ≤ j) (h2 : j ≤ 1000) : bdI j = true := by
  unfold bdI
  (rw [Bool.and_eq_true, decide_eq_true_eq, decide_eq_true_eq])
  omega
theorem rangeP_nat (n : Nat) : rangeP 0 n = (List.range' 0 n).map fun (i : Nat) => PV.int (i : Int) := by
  unfold rangeP
  rw [List.range_eq_range']
  simp
theorem pairs_lc (s : List Nat) (hd : Desc s) (a1 : Slot) (S : Sto) : ∀ (n k : Nat), k + n + 1 ≤ s.length →
    lcL (gN 2) tT (eOp pGe (eIx (eV 0) (eV 2)) (eIx (eV 0) (eOp pAdd (eV 2) (eC (.int 1))))) ((List.range' k n).map fun (i : Nat) => PV.int (i : Int)) [.val (tI s), a1, .un, .un] S = .ok (List.replicate n (.bl true), S)
  | 0, k, _ => rfl
  | n + 1, k, h => by
    rw [List.range'_succ, List.map_cons, List.replicate_succ]
    refine lcL_yes (en := [.val (tI s), a1, .val (.int k), .un]) rfl rfl ?_ (pairs_lc s hd a1 S n (k + 1) (by omega))
    have h1 : k < s.length := by omega
    have h2 : k + 1 < s.length := by omega
    refine eOp_ok (eIx_ok (k := k) rfl rfl h1) (eIx_ok (k := k + 1) rfl (S2 := S) ?_ h2) ?_
    · exact eOp_ok (x := .int k) (y := .int 1) rfl rfl rfl
    · have h3 : s[k + 1] ≤ s[k] := List.pairwise_iff_getElem.mp hd k (k + 1) h1 h2 (by omega)
      have h4 : (s[k + 1] : Int) ≤ (s[k] : Int) := by omega
      simp [pCmp]
      exact h3
theorem le_sum : ∀ (l : List Nat) (q : Nat), q ∈ l → q ≤ l.sum
  | [], _, h => by cases h
  | a :: r, q, h => by
    rw [List.sum_cons]
    (rcases List.mem_cons.mp h with rfl | h)
    · omega
    · have := le_sum r q h; omega
structure Sh (s : List Nat) : Prop where
  sh : IsSh s
  sum : s.sum ≤ 40
theorem isshape_ok (s : List Nat) (hs : Sh s) (S : Sto) : f_is_shape [tI s, .int 40] S = .ok (.bl true, S) := by
  have e0 : env0 4 [tI s, .int 40] = [.val (tI s), .val (.int 40), .un, .un] := rfl
  refine runF_rt ?_
  rw [e0]
  have hlen := hs.sh.len
  have t1 : (tNo (tV (eUn (pIsT "tuple") (eV 0)))) [.val (tI s), .val (.int 40), .un, .un] S = .ok (false, S) := rfl
  have t2 : (tV (eOp pGt (eUn pLen (eV 0)) (eV 1))) [.val (tI s), .val (.int 40), .un, .un] S = .ok (false, S) := by
    have e : (eOp pGt (eUn pLen (eV 0)) (eV 1)) [.val (tI s), .val (.int 40), .un, .un] S = .ok (.bl false, S) := by
      refine eOp_ok (un_eq (x := tI s) rfl (pLen_tI s)) (y := .int 40) rfl ?_
      have : ¬ (40 : Int) < (s.length : Int) := by omega
      simp [pCmp]
      omega
    unfold tV
    rw [e]
    rfl
  have t3 : (tNo (tV (eUn pAll (eLc [3] (iSeq (eV 0)) (gN 3) tT (eCall f_is_number (aCons (eV 3) (aCons (eC (.int 1)) (aCons (eV 1) aNil)))))))) [.val (tI s), .val (.int 40), .un, .un] S = .ok (false, S) := by
    have e : (eUn pAll (eLc [3] (iSeq (eV 0)) (gN 3) tT (eCall f_is_number (aCons (eV 3) (aCons (eC (.int 1)) (aCons (eV 1) aNil)))))) [.val (tI s), .val (.int 40), .un, .un] S = .ok (.bl true, S) :=
      un_eq (lc_eq (xs := natsP s) (S1 := S) rfl (by rw [natsP_len]; omega) (parts_lc _ _ S s fun q hq => ⟨hs.sh.pos q hq, by have := le_sum s q hq; have := hs.sum; omega⟩)) (all_true _)
    unfold tNo tV
    rw [e]
    rfl
  have c1 : (sIf (tOrr (tNo (tV (eUn (pIsT "tuple") (eV 0)))) (tOrr (tV (eOp pGt (eUn pLen (eV 0)) (eV 1))) (tNo (tV (eUn pAll (eLc [3] (iSeq (eV 0)) (gN 3) tT (eCall f_is_number (aCons (eV 3) (aCons (eC (.int 1)) (aCons (eV 1) aNil)))))))))) (sRet (eC (.bl false))) sNext) [.val (tI s), .val (.int 40), .un, .un] S = .ok (.nx [.val (tI s), .val (.int 40), .un, .un] S) := by
    unfold sIf tOrr
    rw [t1]
    simp only [Res.bind]
    rw [t2]
    simp only [Res.bind]
    rw [t3]
    rfl
  refine (sSeq_nx c1).trans (sRet_ok ?_)
  have a1 : (eOp pLe (eUn pSum (eV 0)) (eV 1)) [.val (tI s), .val (.int 40), .un, .un] S = .ok (.bl true, S) := by
    refine eOp_ok (un_eq (x := tI s) rfl (pSum_tI s)) (y := .int 40) rfl ?_
    have := hs.sum
    simp [pCmp]
    omega
  have r1 : (iR1 (aCons (eOp pSub (eUn pLen (eV 0)) (eC (.int 1))) aNil)) [.val (tI s), .val (.int 40), .un, .un] S = .ok (rangeP 0 ((s.length : Int) - 1).toNat, S) := by
    refine iR1_eq (aCons_ok (eOp_ok (un_eq (x := tI s) rfl (pLen_tI s)) (y := .int 1) rfl rfl) rfl) (bdI_of (by omega) (by omega))
  have hn : ((s.length : Int) - 1).toNat = s.length - 1 := by omega
  rw [hn] at r1
  have a2 : (eUn pAll (eLc [2] (iR1 (aCons (eOp pSub (eUn pLen (eV 0)) (eC (.int 1))) aNil)) (gN 2) tT (eOp pGe (eIx (eV 0) (eV 2)) (eIx (eV 0) (eOp pAdd (eV 2) (eC (.int 1))))))) [.val (tI s), .val (.int 40), .un, .un] S = .ok (.bl true, S) := by
    refine un_eq (lc_eq (S1 := S) r1 (by unfold rangeP; rw [List.length_map, List.length_range]; omega) (ys := List.replicate (s.length - 1) (.bl true)) (S2 := S) ?_) (all_true _)
    rw [rangeP_nat]
    by_cases hz : s.length = 0
    · have e : s.length - 1 = 0 := by omega
      rw [e]; rfl
    · exact pairs_lc s hs.sh.desc _ S (s.length - 1) 0 (by omega)
  unfold eAnd
  rw [a1]
  simp only [Res.bind]
  exact a2
theorem check_ok (s : List Nat) (hs : Sh s) (S : Sto) : f_check_shape [tI s, .int 40] S = .ok (.non, S) := by
  have e : eCall f_is_shape (aCons (eV 0) (aCons (eV 1) aNil)) [.val (tI s), .val (.int 40)] S = .ok (.bl true, S) := eCall_ok (xs := [tI s, .int 40]) (S1 := S) rfl (isshape_ok s hs S)
  have h : F_check_shape (env0 2 [tI s, .int 40]) S = .ok (.nx [.val (tI s), .val (.int 40)] S) := by
    show (sIf (tNo (tV (eCall f_is_shape (aCons (eV 0) (aCons (eV 1) aNil))))) sX sNext) [.val (tI s), .val (.int 40)] S = _
    unfold sIf tNo tV
    rw [e]
    rfl
  unfold f_check_shape runF
  rw [h]
theorem checkr_ok (s : List Nat) (m : Nat) (hs : Sh s) (h1 : 1 ≤ m) (h2 : m ≤ 40) (S : Sto) : f_check_ribbons [tI s, .int m] S = .ok (.non, S) := by
  have e : sDrop (eCall f_check_shape (aCons (eV 0) (aCons (eC (.int 40)) aNil))) [.val (tI s), .val (.int m)] S = .ok (.nx [.val (tI s), .val (.int m)] S) := by
    have e1 : eCall f_check_shape (aCons (eV 0) (aCons (eC (.int 40)) aNil)) [.val (tI s), .val (.int m)] S = .ok (.non, S) := eCall_ok (xs := [tI s, .int 40]) (S1 := S) rfl (check_ok s hs S)
    unfold sDrop
    rw [e1]
    rfl
  have e2 : eCall f_is_number (aCons (eV 1) (aCons (eC (.int 1)) (aCons (eC (.int 40)) aNil))) [.val (tI s), .val (.int m)] S = .ok (.bl true, S) := eCall_ok (xs := [.int m, .int 1, .int 40]) (S1 := S) rfl (isnum_ok m 1 40 (by omega) (by omega) S)
  have h : F_check_ribbons (env0 2 [tI s, .int m]) S = .ok (.nx [.val (tI s), .val (.int m)] S) := by
    refine (sSeq_nx e).trans ?_
    unfold sIf tNo tV
    rw [e2]
    rfl
  unfold f_check_ribbons runF
  rw [h]
/-! center -/
theorem dOK_mv (s : List Nat) (m b : Nat) : isD (mv s m b) = true ∧ dpP (mv s m b) ≤ 2 := by
  simp [mv, tI, isD, isDL, dpP, dpPL, isDL_ints, dpPL_ints]
theorem dOK_moves : ∀ (s : List Nat) (m : Nat) (l : List Nat), isDL (l.map (mv s m)) = true ∧ dpPL (l.map (mv s m)) ≤ 2
  | s, m, [] => by simp [isDL, dpPL]
  | s, m, b :: r => by
    obtain ⟨h1, h2⟩ := dOK_mv s m b
    obtain ⟨h3, h4⟩ := dOK_moves s m r
    rw [List.map_cons, isDL, dpPL, h1, h3]
    exact ⟨rfl, by omega⟩
theorem dOK_mvs (s : List Nat) (m : Nat) : dOK (.lst (moves s m)) = true := by
  obtain ⟨h1, h2⟩ := dOK_moves s m ((beads s).filter (can s m))
  unfold dOK moves
  rw [isD, dpP, h1, Bool.true_and, decide_eq_true_eq]
  omega
theorem ne_moves (s : List Nat) (m : Nat) : pNe (.lst (moves s m)) (.lst []) = some (.bl (!(moves s m).isEmpty)) := by
  unfold pNe
  rw [dOK_mvs]
  have : dOK (.lst []) = true := by decide
  rw [this]
  (simp only [Bool.and_self, if_true])
  cases moves s m with
  | nil => simp [eqP, eqPL]
  | cons a r => simp [eqP, eqPL]
def CBody : FS := (sSeq (sSet 0 (eIx (eIx (eV 2) (eC (.int 0))) (eC (.int 0)))) (sSet 2 (eCall f_without_ribbons (aCons (eV 0) (aCons (eV 1) aNil)))))
def CCond : FT := (tV (eOp pNe (eV 2) (eB pLst aNil)))
theorem center_is : F_center = sSeq (sDrop (eCall f_check_ribbons (aCons (eV 0) (aCons (eV 1) aNil)))) (sSeq (sSet 2 (eCall f_without_ribbons (aCons (eV 0) (aCons (eV 1) aNil)))) (sSeq (sWh 100 CCond CBody) (sRet (eV 0)))) := rfl
theorem cond_ok (s : List Nat) (m : Nat) (a0 a1 : Slot) (S : Sto) : CCond [a0, a1, .val (.lst (moves s m))] S = .ok (!(moves s m).isEmpty, S) := by
  have e : (eOp pNe (eV 2) (eB pLst aNil)) [a0, a1, .val (.lst (moves s m))] S = .ok (.bl (!(moves s m).isEmpty), S) := eOp_ok (x := .lst (moves s m)) (y := .lst []) rfl rfl (ne_moves s m)
  unfold CCond tV
  rw [e]
  rfl
theorem lft_ok {s : List Nat} {m b : Nat} (hs : Sh s) (hb : b ∈ beads s) (hc : can s m b = true) : Sh (lft s m b) ∧ (∀ r, cls m r (lft s m b) = cls m r s) ∧ (lft s m b).sum + m = s.sum := by
  have hcs : m ≤ b ∧ b - m ∉ beads s := by simpa [can] using hc
  have hnd : (beads s).Nodup := (beads_desc s hs.sh.desc).imp fun h => Nat.ne_of_gt h
  obtain ⟨h1, h2, h3⟩ := move_ok hs.sh hb hcs.1 hcs.2 (dsort_perm _) (dsort_desc (repl_nodup b (b - m) _ hnd hcs.2))
  refine ⟨⟨h1, ?_⟩, h2, h3⟩
  have := hs.sum
  unfold lft mk
  omega
theorem stuck_of {s : List Nat} {m : Nat} (h : moves s m = []) : Stuck m s := by
  intro b hb hm
  unfold moves at h
  have h1 := List.map_eq_nil_iff.mp h
  have h2 := List.filter_eq_nil_iff.mp h1 b hb
  simpa [can, hm] using h2
theorem moves_of {s : List Nat} {m : Nat} (h : Stuck m s) : moves s m = [] := by
  unfold moves
  rw [List.map_eq_nil_iff, List.filter_eq_nil_iff]
  intro b hb hc
  have hcs : m ≤ b ∧ b - m ∉ beads s := by simpa [can] using hc
  exact hcs.2 (h b hb hcs.1)
structure Ctr (m : Nat) (s c : List Nat) : Prop where
  sh : Sh c
  st : Stuck m c
  cl : ∀ r, cls m r c = cls m r s
  sm : ∃ k, c.sum + k * m = s.sum
theorem wh_ok (m : Nat) (hm : 0 < m) : ∀ (f : Nat) (s : List Nat), Sh s → s.sum < f → ∃ c, Ctr m s c ∧ ∀ S : Sto, whL CCond CBody f [.val (tI s), .val (.int m), .val (.lst (moves s m))] S = .ok (.nx [.val (tI c), .val (.int m), .val (.lst [])] S)
  | 0, s, _, h => by omega
  | f + 1, s, hs, h => by
    cases e : moves s m with
    | nil =>
      refine ⟨s, ⟨hs, stuck_of e, fun _ => rfl, 0, by omega⟩, fun S => ?_⟩
      rw [whL]
      have hc := cond_ok s m (.val (tI s)) (.val (.int m)) S
      rw [e] at hc
      rw [hc]
      rfl
    | cons x r =>
      obtain ⟨b, hb, hc, rfl⟩ : ∃ b, b ∈ beads s ∧ can s m b = true ∧ x = mv s m b := by
        have hx : x ∈ moves s m := by rw [e]; simp
        (obtain ⟨b, hb, rfl⟩ := List.mem_map.mp hx)
        obtain ⟨h1, h2⟩ := List.mem_filter.mp hb
        exact ⟨b, h1, h2, rfl⟩
      obtain ⟨h1, h2, h3⟩ := lft_ok hs hb hc
      obtain ⟨c, hC, hw⟩ := wh_ok m hm f (lft s m b) h1 (by omega)
      refine ⟨c, ⟨hC.sh, hC.st, fun r => (hC.cl r).trans (h2 r), ?_⟩, fun S => ?_⟩
      · obtain ⟨k, hk⟩ := hC.sm
        exact ⟨k + 1, by rw [Nat.succ_mul]; omega⟩
      · rw [whL]
        have hcd := cond_ok s m (.val (tI s)) (.val (.int m)) S
        rw [e] at hcd
        rw [hcd]
        have hb1 : CBody [.val (tI s), .val (.int m), .val (.lst (mv s m b :: r))] S = .ok (.nx [.val (tI (lft s m b)), .val (.int m), .val (.lst (moves (lft s m b) m))] S) := by
          have e1 : sSet 0 (eIx (eIx (eV 2) (eC (.int 0))) (eC (.int 0))) [.val (tI s), .val (.int m), .val (.lst (mv s m b :: r))] S = .ok (.nx [.val (tI (lft s m b)), .val (.int m), .val (.lst (mv s m b :: r))] S) := by
            refine sSet_ok (v := tI (lft s m b)) (S1 := S) ?_
            have p1 : pIx (.lst (mv s m b :: r)) (.int 0) = some (mv s m b) := by
              show atI (mv s m b :: r) ((0 : Nat) : Int) = _
              exact atI_nat rfl
            have q1 : eIx (eV 2) (eC (.int 0)) [.val (tI s), .val (.int m), .val (.lst (mv s m b :: r))] S = .ok (mv s m b, S) := by
              show (ofO (pIx (.lst (mv s m b :: r)) (.int 0))).bind _ = _
              rw [p1]
              rfl
            unfold eIx at q1 ⊢
            rw [q1]
            rfl
          refine (sSeq_nx e1).trans (sSet_ok (eCall_ok (xs := [tI (lft s m b), .int m]) (S1 := S) rfl (without_ok _ m h1.sh S)))
        simp only [Res.bind, hb1]
        exact hw S
theorem center_ok (s : List Nat) (m : Nat) (hs : Sh s) (h1 : 1 ≤ m) (h2 : m ≤ 40) : ∃ c, Ctr m s c ∧ ∀ S : Sto, f_center [tI s, .int m] S = .ok (tI c, S) := by
  obtain ⟨c, hC, hw⟩ := wh_ok m h1 100 s hs (by have := hs.sum; omega)
  refine ⟨c, hC, fun S => runF_rt ?_⟩
  rw [center_is]
  have e0 : env0 3 [tI s, .int m] = [.val (tI s), .val (.int m), .un] := rfl
  rw [e0]
  have e1 : sDrop (eCall f_check_ribbons (aCons (eV 0) (aCons (eV 1) aNil))) [.val (tI s), .val (.int m), .un] S = .ok (.nx [.val (tI s), .val (.int m), .un] S) := by
    have q : eCall f_check_ribbons (aCons (eV 0) (aCons (eV 1) aNil)) [.val (tI s), .val (.int m), .un] S = .ok (.non, S) := eCall_ok (xs := [tI s, .int m]) (S1 := S) rfl (checkr_ok s m hs h1 h2 S)
    unfold sDrop
    rw [q]
    rfl
  refine (sSeq_nx e1).trans ((sSeq_nx (sSet_ok (eCall_ok (xs := [tI s, .int m]) (S1 := S) rfl (without_ok s m hs.sh S)))).trans ?_)
  refine (sSeq_nx (hw S)).trans rfl
theorem center_same {m : Nat} (hm : 0 < m) {s s' c c' : List Nat} (h : Ctr m s c) (h' : Ctr m s' c') (e : ∀ r, cls m r s = cls m r s') : c = c' :=
  unique hm h.sh.sh h'.sh.sh h.st h'.st fun r => ((h.cl r).trans (e r)).trans (h'.cl r).symm
end K60
set_option Elab.async false
set_option linter.all false
set_option maxRecDepth 100000
set_option maxHeartbeats 10000001
namespace K60
open PySem PySem.Spec PyProof.Rows L2 J
theorem eqPL_nats : ∀ l k : List Nat, eqPL (natsP l) (natsP k) = decide (l = k)
  | [], [] => by simp [natsP, eqPL]
  | [], b :: k => by simp [natsP, eqPL]
  | a :: l, [] => by simp [natsP, eqPL]
  | a :: l, b :: k => by
    rw [natsP_cons, natsP_cons, eqPL, eqPL_nats l k]
    by_cases h : a = b
    · subst h; simp [eqP]
    · have h' : ¬ (a : Int) = (b : Int) := by omega
      simp [eqP, h, h']
theorem ne_tI (l k : List Nat) : pNe (tI l) (tI k) = some (.bl (!decide (l = k))) := by
  unfold pNe
  rw [dOK_tI, dOK_tI]
  simp only [Bool.and_self, if_true, tI, eqP, eqPL_nats]
theorem ne_nil (l : List Nat) : pNe (tI l) (.tup []) = some (.bl (!decide (l = []))) := ne_tI l []
/-! tilted -/
def tilt (s : List Nat) : List Nat := (List.range' 0 (s.headD 0)).map fun j => tall j s
theorem tall_lc (j : Nat) (a0 : Slot) (S : Sto) : ∀ l : List Nat, lcL (gN 2) (tV (eOp pGt (eV 2) (eV 1))) (eV 2) (natsP l) [a0, .val (.int j), .un] S = .ok (natsP (l.filter (j < ·)), S)
  | [] => rfl
  | p :: r => by
    rw [natsP_cons]
    by_cases hp : j < p
    · have e : (p :: r).filter (j < ·) = p :: r.filter (j < ·) := by simp [hp]
      rw [e, natsP_cons]
      refine lcL_yes (en := [a0, .val (.int j), .val (.int p)]) rfl ?_ rfl (tall_lc j a0 S r)
      simp [tV, eOp, eV, pCmp, Res.bind, ofO, hp]
    · have e : (p :: r).filter (j < ·) = r.filter (j < ·) := by simp [hp]
      rw [e]
      refine lcL_no (en := [a0, .val (.int j), .val (.int p)]) rfl ?_ (tall_lc j a0 S r)
      simp [tV, eOp, eV, pCmp, Res.bind, ofO]
      omega
theorem tilt_lc (s : List Nat) (hl : s.length ≤ 40) (S : Sto) : ∀ l : List Nat,
    lcL (gN 1) tT (eUn pLen (eLc [2] (iSeq (eV 0)) (gN 2) (tV (eOp pGt (eV 2) (eV 1))) (eV 2))) (l.map fun (i : Nat) => PV.int (i : Int)) [.val (tI s), .un, .un] S = .ok (natsP (l.map fun j => tall j s), S)
  | [] => rfl
  | j :: r => by
    rw [List.map_cons, List.map_cons, natsP_cons]
    refine lcL_yes (en := [.val (tI s), .val (.int j), .un]) rfl rfl ?_ (tilt_lc s hl S r)
    refine un_eq (lc_eq (xs := natsP s) (S1 := S) rfl (by rw [natsP_len]; omega) (tall_lc j _ S s)) ?_
    show some (PV.int ((natsP _).length : Int)) = _
    rw [natsP_len]; rfl
theorem head_le {s : List Nat} (hs : Sh s) : s.headD 0 ≤ 40 := by
  cases s with
  | nil => simp
  | cons a r => have := hs.sum; have := le_sum (a :: r) a (by simp); simp; omega
theorem tilted_ok (s : List Nat) (hs : Sh s) (S : Sto) : f_l_tilted [tI s] S = .ok (tI (tilt s), S) := by
  have hh := head_le hs
  have e : (eIf (tV (eOp pNe (eV 0) (eB pTup aNil))) (eIx (eV 0) (eC (.int 0))) (eC (.int 0))) [.val (tI s), .un, .un] S = .ok (.int ((s.headD 0 : Nat) : Int), S) := by
    have c : (tV (eOp pNe (eV 0) (eB pTup aNil))) [.val (tI s), .un, .un] S = .ok (!decide (s = []), S) := by
      have : (eOp pNe (eV 0) (eB pTup aNil)) [.val (tI s), .un, .un] S = .ok (.bl (!decide (s = [])), S) := eOp_ok (x := tI s) (y := .tup []) rfl rfl (ne_nil s)
      unfold tV
      rw [this]
      rfl
    unfold eIf
    rw [c]
    cases s with
    | nil => rfl
    | cons a r =>
      simp only [Res.bind]
      exact eIx_ok (l := a :: r) (k := 0) rfl rfl (by simp)
  have r1 : (iR1 (aCons (eIf (tV (eOp pNe (eV 0) (eB pTup aNil))) (eIx (eV 0) (eC (.int 0))) (eC (.int 0))) aNil)) [.val (tI s), .un, .un] S = .ok (rangeP 0 (s.headD 0), S) := by
    have := iR1_eq (f := aCons (eIf (tV (eOp pNe (eV 0) (eB pTup aNil))) (eIx (eV 0) (eC (.int 0))) (eC (.int 0))) aNil) (aCons_ok e rfl) (bdI_of (by omega) (by omega))
    rwa [Int.toNat_natCast] at this
  rw [rangeP_nat] at r1
  exact runF_rt (sRet_ok (un_eq (lc_eq (S1 := S) r1 (by rw [List.length_map, List.length_range']; omega) (tilt_lc s hs.sh.len S _)) rfl))
/-! boxes -/
def BxBody : FS := (sSeq (sSet 4 (eIf (tV (eOp pLt (eV 3) (eUn pLen (eV 1)))) (eIx (eV 1) (eV 3)) (eC (.int 0)))) (sSet 2 (eOp pAdd (eV 2) (eLc [5] (iR2 (aCons (eV 4) (aCons (eIx (eV 0) (eV 3)) aNil))) (gN 5) tT (eB pTup (aCons (eV 3) (aCons (eV 5) aNil)))))))
theorem boxes_is : F_l_boxes = sSeq (sSet 2 (eB pLst aNil)) (sSeq (sFor (iR1 (aCons (eUn pLen (eV 0)) aNil)) (gN 3) BxBody) (sRet (eV 2))) := rfl
theorem row_lc (i : Nat) (a0 a1 a2 a4 : Slot) (S : Sto) : ∀ l : List Nat, lcL (gN 5) tT (eB pTup (aCons (eV 3) (aCons (eV 5) aNil))) (l.map fun (j : Nat) => PV.int (j : Int)) [a0, a1, a2, .val (.int i), a4, .un] S = .ok (l.map fun (j : Nat) => PV.tup [.int i, .int j], S)
  | [] => rfl
  | j :: r => by
    (rw [List.map_cons, List.map_cons])
    exact lcL_yes (en := [a0, a1, a2, .val (.int i), a4, .val (.int j)]) rfl rfl rfl (row_lc i a0 a1 a2 a4 S r)
theorem iR2_eq {f : FA} {env : J.Env} {S S1 : Sto} {i j : Int} (h : f env S = .ok ([.int i, .int j], S1)) (b : bdI i = true) (b' : bdI j = true) : iR2 f env S = .ok (rangeP i (j - i).toNat, S1) := by
  unfold iR2
  rw [h]
  simp only [Res.bind]
  rw [b, b']
  rfl
theorem pAdd_lst {a b : List PV} (h : a.length + b.length ≤ 1000000) : pAdd (.lst a) (.lst b) = some (.lst (a ++ b)) := by
  unfold pAdd
  exact if_pos h
def BoxOf (s : List Nat) (x : PV) : Prop := ∃ (i j : Nat) (h : i < s.length), j < s[i] ∧ x = .tup [.int i, .int j]
theorem bxbody_ok (s : List Nat) (hs : Sh s) (i : Nat) (hi : i < s.length) (xs : List PV) (hx : xs.length ≤ 40 * i) (a4 a5 : Slot) (S : Sto) :
    BxBody [.val (tI s), .val (.tup []), .val (.lst xs), .val (.int i), a4, a5] S = .ok (.nx [.val (tI s), .val (.tup []), .val (.lst (xs ++ (List.range' 0 s[i]).map fun (j : Nat) => PV.tup [.int i, .int j])), .val (.int i), .val (.int 0), a5] S) := by
  have e1 : sSet 4 (eIf (tV (eOp pLt (eV 3) (eUn pLen (eV 1)))) (eIx (eV 1) (eV 3)) (eC (.int 0))) [.val (tI s), .val (.tup []), .val (.lst xs), .val (.int i), a4, a5] S = .ok (.nx [.val (tI s), .val (.tup []), .val (.lst xs), .val (.int i), .val (.int 0), a5] S) := by
    have h0 : ¬ (i : Int) < 0 := by omega
    simp [sSet, eIf, tV, eOp, eUn, eV, eC, pLen, pCmp, Res.bind, ofO, h0]
  have hle : s[i] ≤ 40 := by have := le_sum s s[i] (List.getElem_mem hi); have := hs.sum; omega
  have r1 : (iR2 (aCons (eV 4) (aCons (eIx (eV 0) (eV 3)) aNil))) [.val (tI s), .val (.tup []), .val (.lst xs), .val (.int i), .val (.int 0), a5] S = .ok ((List.range' 0 s[i]).map fun (j : Nat) => PV.int (j : Int), S) := by
    have ha : (aCons (eV 4) (aCons (eIx (eV 0) (eV 3)) aNil)) [.val (tI s), .val (.tup []), .val (.lst xs), .val (.int i), .val (.int 0), a5] S = .ok ([.int 0, .int (s[i] : Int)], S) := aCons_ok rfl (aCons_ok (eIx_ok (k := i) rfl rfl hi) rfl)
    have e : ((s[i] : Int) - 0).toNat = s[i] := by omega
    have := iR2_eq ha (bdI_of (by omega) (by omega)) (bdI_of (by omega) (by omega))
    rwa [e, rangeP_nat] at this
  refine (sSeq_nx e1).trans (sSet_ok (eOp_ok (x := .lst xs) rfl (lc_eq (S1 := S) r1 (by rw [List.length_map, List.length_range']; omega) (row_lc i _ _ _ _ S _)) ?_))
  refine pAdd_lst ?_
  rw [List.length_map, List.length_range']
  have := hs.sh.len
  omega
theorem bloop (s : List Nat) (hs : Sh s) (S : Sto) : ∀ (n k : Nat) (xs : List PV) (a3 a4 a5 : Slot), k + n = s.length → xs.length ≤ 40 * k → (∀ x ∈ xs, BoxOf s x) →
    ∃ ys b3 b4, forL (gN 3) BxBody ((List.range' k n).map fun (i : Nat) => PV.int (i : Int)) [.val (tI s), .val (.tup []), .val (.lst xs), a3, a4, a5] S = .ok (.nx [.val (tI s), .val (.tup []), .val (.lst ys), b3, b4, a5] S) ∧ ∀ x ∈ ys, BoxOf s x
  | 0, k, xs, a3, a4, a5, _, _, h => ⟨xs, a3, a4, rfl, h⟩
  | n + 1, k, xs, a3, a4, a5, hk, hx, h => by
    have hi : k < s.length := by omega
    have hle : s[k] ≤ 40 := by have := le_sum s s[k] (List.getElem_mem hi); have := hs.sum; omega
    obtain ⟨ys, b3, b4, h1, h2⟩ := bloop s hs S n (k + 1) (xs ++ (List.range' 0 s[k]).map fun (j : Nat) => PV.tup [.int k, .int j]) (.val (.int k)) (.val (.int 0)) a5 (by omega) (by rw [List.length_append, List.length_map, List.length_range']; omega) (fun x hx => by
      (rcases List.mem_append.mp hx with hx | hx)
      · exact h x hx
      · obtain ⟨j, hj, rfl⟩ := List.mem_map.mp hx
        refine ⟨k, j, hi, ?_, rfl⟩
        have := List.mem_range'_1.mp hj
        omega)
    refine ⟨ys, b3, b4, ?_, h2⟩
    rw [List.range'_succ, List.map_cons]
    exact (forL_nx rfl (bxbody_ok s hs k hi xs hx a4 a5 S)).trans h1
theorem boxes_ok (s : List Nat) (hs : Sh s) (S : Sto) : ∃ xs, f_l_boxes [tI s, .tup []] S = .ok (.lst xs, S) ∧ ∀ x ∈ xs, BoxOf s x := by
  obtain ⟨ys, b3, b4, h1, h2⟩ := bloop s hs S s.length 0 [] .un .un .un (by omega) (by simp) (by simp)
  refine ⟨ys, runF_rt ?_, h2⟩
  rw [boxes_is]
  have e1 : sSet 2 (eB pLst aNil) (env0 6 [tI s, .tup []]) S = .ok (.nx [.val (tI s), .val (.tup []), .val (.lst []), .un, .un, .un] S) := rfl
  have r1 : (iR1 (aCons (eUn pLen (eV 0)) aNil)) [.val (tI s), .val (.tup []), .val (.lst []), .un, .un, .un] S = .ok (rangeP 0 s.length, S) := by
    have := iR1_eq (f := aCons (eUn pLen (eV 0)) aNil) (env := [.val (tI s), .val (.tup []), .val (.lst []), .un, .un, .un]) (S := S) (aCons_ok (un_eq (x := tI s) rfl (pLen_tI s)) rfl) (bdI_of (by omega) (by have := hs.sh.len; omega))
    rwa [Int.toNat_natCast] at this
  rw [rangeP_nat] at r1
  exact (sSeq_nx e1).trans ((sSeq_nx (sFor_ok r1 h1)).trans rfl)
/-! has_hook -/
def HkBody : FS := (sIf (tV (eOp pEq (eOp pMod (eUn pInt (eOp pSub (eOp pSub (eOp pAdd (eOp pSub (eIx (eV 0) (eV 3)) (eV 4)) (eIx (eV 2) (eV 4))) (eV 3)) (eC (.int 1)))) (eV 1)) (eC (.int 0)))) (sRet (eC (.bl true))) sNext)
theorem hook_is : F_l_has_hook = sSeq (sSet 2 (eCall f_l_tilted (aCons (eV 0) aNil))) (sSeq (sFor (iSeq (eCall f_l_boxes (aCons (eV 0) (aCons (eB pTup aNil) aNil)))) (gT 2 (gNc (gN 3) (gNc (gN 4) gNn))) HkBody) (sRet (eC (.bl false)))) := rfl
theorem tilt_get (s : List Nat) (hd : Desc s) (i j : Nat) (hi : i < s.length) (hj : j < s[i]) : ∃ h : j < (tilt s).length, (tilt s)[j] = tall j s := by
  have hh : s[i] ≤ s.headD 0 := by
    cases s with
    | nil => simp at hi
    | cons a r =>
      cases i with
      | zero => simp
      | succ i => simp only [List.headD_cons, List.getElem_cons_succ]; exact (List.pairwise_cons.mp hd).1 _ (List.getElem_mem _)
  have hl : (tilt s).length = s.headD 0 := by unfold tilt; rw [List.length_map, List.length_range']
  refine ⟨by omega, ?_⟩
  simp [tilt]
theorem hkbody_ok (s : List Nat) (m : Nat) (hm : 0 < m) (hs : Sh s) (ss : Stuck m s) (i j : Nat) (hi : i < s.length) (hj : j < s[i]) (S : Sto) :
    HkBody [.val (tI s), .val (.int m), .val (tI (tilt s)), .val (.int i), .val (.int j)] S = .ok (.nx [.val (tI s), .val (.int m), .val (tI (tilt s)), .val (.int i), .val (.int j)] S) := by
  obtain ⟨h1, h2⟩ := tilt_get s hs.sh.desc i j hi hj
  have hk := no_hook hm hs.sh.desc ss i j hi hj
  have e1 : (eIx (eV 0) (eV 3)) [.val (tI s), .val (.int m), .val (tI (tilt s)), .val (.int i), .val (.int j)] S = .ok (.int (s[i] : Int), S) := eIx_ok (k := i) rfl rfl hi
  have e2 : (eIx (eV 2) (eV 4)) [.val (tI s), .val (.int m), .val (tI (tilt s)), .val (.int i), .val (.int j)] S = .ok (.int (tall j s : Int), S) := by
    have := eIx_ok (a := eV 2) (b := eV 4) (env := [.val (tI s), .val (.int m), .val (tI (tilt s)), .val (.int i), .val (.int j)]) (S := S) (l := tilt s) (k := j) rfl rfl h1
    rwa [h2] at this
  have e3 : (eOp pMod (eUn pInt (eOp pSub (eOp pSub (eOp pAdd (eOp pSub (eIx (eV 0) (eV 3)) (eV 4)) (eIx (eV 2) (eV 4))) (eV 3)) (eC (.int 1)))) (eV 1)) [.val (tI s), .val (.int m), .val (tI (tilt s)), .val (.int i), .val (.int j)] S = .ok (.int (((s[i] : Int) - (j : Int) + (tall j s : Int) - (i : Int) - 1) % (m : Int)), S) := by
    refine eOp_ok (x := .int ((s[i] : Int) - (j : Int) + (tall j s : Int) - (i : Int) - 1)) (un_eq (eOp_ok (eOp_ok (eOp_ok (eOp_ok e1 (y := .int j) rfl rfl) e2 rfl) (y := .int i) rfl rfl) (y := .int 1) rfl rfl) rfl) (y := .int m) rfl ?_
    have : (0 : Int) < (m : Int) := by omega
    simp [pMod, hm]
  have e4 : (tV (eOp pEq (eOp pMod (eUn pInt (eOp pSub (eOp pSub (eOp pAdd (eOp pSub (eIx (eV 0) (eV 3)) (eV 4)) (eIx (eV 2) (eV 4))) (eV 3)) (eC (.int 1)))) (eV 1)) (eC (.int 0)))) [.val (tI s), .val (.int m), .val (tI (tilt s)), .val (.int i), .val (.int j)] S = .ok (false, S) := by
    have : (eOp pEq (eOp pMod (eUn pInt (eOp pSub (eOp pSub (eOp pAdd (eOp pSub (eIx (eV 0) (eV 3)) (eV 4)) (eIx (eV 2) (eV 4))) (eV 3)) (eC (.int 1)))) (eV 1)) (eC (.int 0))) [.val (tI s), .val (.int m), .val (tI (tilt s)), .val (.int i), .val (.int j)] S = .ok (.bl false, S) := by
      refine eOp_ok e3 (y := .int 0) rfl ?_
      unfold pEq
      rw [dOK_int, dOK_int]
      simp [eqP, hk]
    unfold tV
    rw [this]
    rfl
  unfold HkBody sIf
  rw [e4]
  rfl
theorem hkloop (s : List Nat) (m : Nat) (hm : 0 < m) (hs : Sh s) (ss : Stuck m s) (S : Sto) : ∀ (xs : List PV) (a3 a4 : Slot), (∀ x ∈ xs, BoxOf s x) →
    ∃ b3 b4, forL (gT 2 (gNc (gN 3) (gNc (gN 4) gNn))) HkBody xs [.val (tI s), .val (.int m), .val (tI (tilt s)), a3, a4] S = .ok (.nx [.val (tI s), .val (.int m), .val (tI (tilt s)), b3, b4] S)
  | [], a3, a4, _ => ⟨a3, a4, rfl⟩
  | x :: r, a3, a4, h => by
    obtain ⟨i, j, hi, hj, rfl⟩ := h x (by simp)
    obtain ⟨b3, b4, h1⟩ := hkloop s m hm hs ss S r (.val (.int i)) (.val (.int j)) fun y hy => h y (by simp [hy])
    exact ⟨b3, b4, (forL_nx rfl (hkbody_ok s m hm hs ss i j hi hj S)).trans h1⟩
theorem hook_ok (s : List Nat) (m : Nat) (hm : 0 < m) (hs : Sh s) (ss : Stuck m s) (S : Sto) : f_l_has_hook [tI s, .int m] S = .ok (.bl false, S) := by
  obtain ⟨xs, h1, h2⟩ := boxes_ok s hs S
  obtain ⟨b3, b4, h3⟩ := hkloop s m hm hs ss S xs .un .un h2
  refine runF_rt ?_
  rw [hook_is]
  have e0 : env0 5 [tI s, .int m] = [.val (tI s), .val (.int m), .un, .un, .un] := rfl
  rw [e0]
  have r1 : iSeq (eCall f_l_boxes (aCons (eV 0) (aCons (eB pTup aNil) aNil))) [.val (tI s), .val (.int m), .val (tI (tilt s)), .un, .un] S = .ok (xs, S) := by
    have : eCall f_l_boxes (aCons (eV 0) (aCons (eB pTup aNil) aNil)) [.val (tI s), .val (.int m), .val (tI (tilt s)), .un, .un] S = .ok (.lst xs, S) := eCall_ok (xs := [tI s, .tup []]) (S1 := S) rfl h1
    unfold iSeq
    rw [this]
    rfl
  refine (sSeq_nx (sSet_ok (eCall_ok (xs := [tI s]) (S1 := S) rfl (tilted_ok s hs S)))).trans ((sSeq_nx (sFor_ok r1 h3)).trans rfl)
/-! ribbons -/
theorem moves_len (s : List Nat) (m : Nat) (hs : Sh s) : (moves s m).length ≤ 40 := by
  unfold moves
  rw [List.length_map]
  have := List.length_filter_le (can s m) (beads s)
  rw [beads_len] at this
  have := hs.sh.len
  omega
theorem moves_all (s : List Nat) (m : Nat) : ∀ x ∈ moves s m, ∃ b, b ∈ beads s ∧ can s m b = true ∧ x = mv s m b := fun x hx => by
  (obtain ⟨b, hb, rfl⟩ := List.mem_map.mp hx)
  obtain ⟨k1, k2⟩ := List.mem_filter.mp hb
  exact ⟨b, k1, k2, rfl⟩
theorem ribbons_is (s : List Nat) (m : Nat) (hs : Sh s) (h1 : 1 ≤ m) (h2 : m ≤ 40) (S : Sto) : f_ribbons [tI s, .int m] S = .ok (.tup (isort J.ltP (moves s m)), S) := by
  have hl := moves_len s m hs
  have hall := moves_all s m
  have e0 : env0 2 [tI s, .int m] = [.val (tI s), .val (.int m)] := rfl
  have e1 : sDrop (eCall f_check_ribbons (aCons (eV 0) (aCons (eV 1) aNil))) [.val (tI s), .val (.int m)] S = .ok (.nx [.val (tI s), .val (.int m)] S) := by
    have q : eCall f_check_ribbons (aCons (eV 0) (aCons (eV 1) aNil)) [.val (tI s), .val (.int m)] S = .ok (.non, S) := eCall_ok (xs := [tI s, .int m]) (S1 := S) rfl (checkr_ok s m hs h1 h2 S)
    unfold sDrop
    rw [q]
    rfl
  have e2 : pSrt (.two (.seq .int) .int) (.lst (moves s m)) = some (.lst (isort J.ltP (moves s m))) := by
    have h : srtOk (.two (.seq .int) .int) (moves s m) = true := by
      unfold srtOk
      simp only [Bool.and_eq_true, Bool.or_eq_true, decide_eq_true_eq, List.all_eq_true]
      refine ⟨by omega, fun x hx => ?_, by decide, .inl (.inr fun x hx => ?_)⟩
      · obtain ⟨b, _, _, rfl⟩ := hall x hx
        have := hasTy_ints (lft s m b)
        simp [hasTy, mv, tI]
        simpa using this
      · obtain ⟨b, _, _, rfl⟩ := hall x hx
        rfl
    show (if srtOk (.two (.seq .int) .int) (moves s m) then _ else _) = _
    rw [if_pos h]
  refine runF_rt ?_
  rw [e0]
  exact (sSeq_nx e1).trans (sRet_ok (un_eq (un_eq (eCall_ok (xs := [tI s, .int m]) (S1 := S) rfl (without_ok s m hs.sh S)) e2) rfl))
theorem ribbons_ok (s : List Nat) (m : Nat) (hs : Sh s) (h1 : 1 ≤ m) (h2 : m ≤ 40) (S : Sto) : ∃ ys, f_ribbons [tI s, .int m] S = .ok (.tup ys, S) ∧ ys.length ≤ 40 ∧ ∀ y ∈ ys, ∃ b, b ∈ beads s ∧ can s m b = true ∧ y = mv s m b := by
  have hp : (isort J.ltP (moves s m)).Perm (moves s m) := isort_perm _ _
  exact ⟨_, ribbons_is s m hs h1 h2 S, by rw [hp.length_eq]; exact moves_len s m hs, fun y hy => moves_all s m y (hp.mem_iff.mp hy)⟩
end K60
set_option Elab.async false
set_option maxRecDepth 100000
set_option maxHeartbeats 0
namespace K60
open PySem PySem.Spec PyProof.Rows L2 J
def VatIs (S : Sto) (n : Nat) : Prop := ∃ a b c, S[n]? = some [.int a, .int b, .int c] ∧ 0 ≤ a ∧ 0 ≤ b ∧ b < 2147482583
theorem sip_ok (n : Nat) (S : Sto) (t : Int) (hS : VatIs S n) (ht : 0 < t) (ht2 : t < 1000000) :
    ∃ d S', f_l_sip [.obj n, .int t] S = .ok (.int d, S') ∧ 0 ≤ d ∧ d < t ∧ VatIs S' n := by
  obtain ⟨a, b, c, hS, ha, hb, hb2⟩ := hS
  have hn : n < S.length := (List.getElem?_eq_some_iff.mp hS).1
  have ht3 : t < 1073741824 := by omega
  have hset : ∀ xs : List PV, (S.set n xs)[n]? = some xs := fun xs => List.getElem?_set_self hn
  by_cases h0 : 0 < a
  · refine ⟨a % t, S.set n [.int (a / t), .int b, .int c], ?_, Int.emod_nonneg _ (by omega), Int.emod_lt_of_pos _ ht, ⟨_, _, _, hset _, Int.ediv_nonneg ha (by omega), hb, hb2⟩⟩
    simp [f_l_sip, runF, F_l_sip, env0, sSeq, sAsgG, sSet, sIf, sRet, sNext, eOp, eIx, eV, eC, eUn, eB, aCons, aNil, gSubO, gOf, gN, ggT, ggCons, ggNil, tV, pAdd, pIx, atI, ixN, pInt, pMod, pMulB, pMulA, pMul, pCmp, pDivmod, pDiv, Res.bind, ofO, hS, hset, h0, ht, ht3]
  · have hmul1 : okMul 43013 (c + 1) = true := by unfold okMul; rw [decide_eq_true_eq]; left; omega
    have hmul2 : okMul 79 (c + 1) = true := by unfold okMul; rw [decide_eq_true_eq]; left; omega
    have hB0 : 0 ≤ (b + 43013 * (c + 1)) % 2147482583 := Int.emod_nonneg _ (by omega)
    have hB1 : (b + 43013 * (c + 1)) % 2147482583 < 2147482583 := Int.emod_lt_of_pos _ (by omega)
    obtain ⟨B, hB⟩ : ∃ B, B = (b + 43013 * (c + 1)) % 2147482583 := ⟨_, rfl⟩
    rw [← hB] at hB0 hB1
    have hmul3 : okMul B (B % 10009 + 74017) = true := by unfold okMul; rw [decide_eq_true_eq]; left; omega
    refine ⟨((B * (B % 10009 + 74017) + 79 * (c + 1) + 41) % 2147482583 / 193) % t, S.set n [.int a, .int ((B * (B % 10009 + 74017) + 79 * (c + 1) + 41) % 2147482583), .int (c + 1)], ?_, Int.emod_nonneg _ (by omega), Int.emod_lt_of_pos _ ht, ⟨_, _, _, hset _, ha, Int.emod_nonneg _ (by omega), Int.emod_lt_of_pos _ (by omega)⟩⟩
    simp [f_l_sip, runF, F_l_sip, env0, sSeq, sAsgG, sSet, sIf, sRet, sNext, eOp, eIx, eV, eC, eUn, eB, aCons, aNil, gSubO, gOf, gN, ggT, ggCons, ggNil, tV, pAdd, pIx, atI, ixN, pInt, pMod, pMulB, pMulA, pMul, pCmp, pDivmod, pDiv, Res.bind, ofO, hS, hset, hmul1, hmul2, hmul3, h0, ht, ht3, ← hB]
/-! ### a vat made -/
def Stir : FS := (sSet 3 (eOp pMod (eUn pInt (eOp pAdd (eOp pMulB (eV 3) (eOp pAdd (eC (.int 10007)) (eOp pMulB (eC (.int 74)) (eV 4)))) (eOp pMulB (eC (.int 37)) (eV 5)))) (eC (.int 2147482583))))
theorem stir_ok (S : Sto) (e0 e1 e2 : Slot) : ∀ (zs : List Int) (i : Nat) (e4 e5 : Slot) (s : Int), 0 ≤ s → s < 2147482583 →
    ∃ s' e4' e5', forL (gT 2 (gNc (gN 4) (gNc (gN 5) gNn))) Stir (enumP i (zs.map PV.int)) [e0, e1, e2, .val (.int s), e4, e5] S = .ok (.nx [e0, e1, e2, .val (.int s'), e4', e5'] S) ∧ 0 ≤ s' ∧ s' < 2147482583
  | [], i, e4, e5, s, h1, h2 => ⟨s, e4, e5, rfl, h1, h2⟩
  | z :: zs, i, e4, e5, s, h1, h2 => by
    obtain ⟨s', e4', e5', h, k1, k2⟩ := stir_ok S e0 e1 e2 zs (i + 1) (.val (.int i)) (.val (.int z)) ((s * (10007 + 74 * i) + 37 * z) % 2147482583) (Int.emod_nonneg _ (by omega)) (Int.emod_lt_of_pos _ (by omega))
    refine ⟨s', e4', e5', ?_, k1, k2⟩
    have hm : okMul s (10007 + 74 * (i : Int)) = true := by unfold okMul; rw [decide_eq_true_eq]; left; omega
    have hm2 : okMul 74 (i : Int) = true := by unfold okMul; rw [decide_eq_true_eq]; left; omega
    have hm3 : okMul 37 z = true := by unfold okMul; rw [decide_eq_true_eq]; left; omega
    rw [List.map_cons, enumP, forL]
    rw [← h]
    simp [Stir, sSet, eOp, eUn, eV, eC, gN, gT, gNc, gNn, ofO, Res.bind, pMulB, pMulA, pMul, pAdd, pMod, pInt, hm, hm2, hm3]
def VatA : FS := (sRet (eNew (aCons (eIf (tOrr (tV (eOp pLt (eV 2) (eC (.int 0)))) (tV (eOp pGe (eV 2) (eOp pPow (eC (.int 10)) (eC (.int 15)))))) (eUn pAbs (eV 2)) (eC (.int 0))) (aCons (eOp pMod (eUn pInt (eOp pAdd (eV 3) (eOp pMulB (eC (.int 25013)) (eV 2)))) (eC (.int 2147482583))) (aCons (eC (.int 0)) aNil)))))
theorem vatA_ok (S : Sto) (e0 e1 e4 e5 : Slot) (z s : Int) : ∃ a b, 0 ≤ a ∧ 0 ≤ b ∧ b < 2147482583 ∧ VatA [e0, e1, .val (.int z), .val (.int s), e4, e5] S = .ok (.rt (.obj S.length) (S ++ [[.int a, .int b, .int 0]])) := by
  have hm : okMul 25013 z = true := by unfold okMul; rw [decide_eq_true_eq]; left; omega
  by_cases h : z < 0 ∨ 1000000000000000 ≤ z
  · refine ⟨if z < 0 then -z else z, (s + 25013 * z) % 2147482583, by split <;> omega, Int.emod_nonneg _ (by omega), Int.emod_lt_of_pos _ (by omega), ?_⟩
    by_cases hz : z < 0
    · simp [VatA, sRet, eNew, aCons, aNil, eIf, tOrr, tV, eOp, eUn, eV, eC, pCmp, pPow, pAbs, pMod, pInt, pAdd, pMulB, pMulA, pMul, ofO, Res.bind, hz, hm]
    · have hz2 : 1000000000000000 ≤ z := by omega
      simp [VatA, sRet, eNew, aCons, aNil, eIf, tOrr, tV, eOp, eUn, eV, eC, pCmp, pPow, pAbs, pMod, pInt, pAdd, pMulB, pMulA, pMul, ofO, Res.bind, hz, hz2, hm]
  · refine ⟨0, (s + 25013 * z) % 2147482583, by omega, Int.emod_nonneg _ (by omega), Int.emod_lt_of_pos _ (by omega), ?_⟩
    have hz : ¬ z < 0 := by omega
    have hz2 : ¬ 1000000000000000 ≤ z := by omega
    simp [VatA, sRet, eNew, aCons, aNil, eIf, tOrr, tV, eOp, eUn, eV, eC, pCmp, pPow, pAbs, pMod, pInt, pAdd, pMulB, pMulA, pMul, ofO, Res.bind, hz, hz2, hm]
def Pair0 : FS := (sPar 2 3 (aCons (eIf (tV (eOp pLt (eV 1) (eUn pLen (eV 0)))) (eIx (eV 0) (eV 1)) (eC (.int 0))) (aCons (eOp pAdd (eC (.int 14009)) (eOp pMulB (eC (.int 60013)) (eV 1))) aNil)))
theorem vat_eq : F_l_vat_of = sSeq Pair0 (sSeq (sFor (iEn (aCons (eSl (eV 0) oNo (oSo (eC (.int 10)))) aNil)) (gT 2 (gNc (gN 4) (gNc (gN 5) gNn))) Stir) VatA) := rfl
theorem cell_ok (ns : List Int) (k : Nat) (S : Sto) (e2 e3 e4 e5 : Slot) : ∃ z, Pair0 [.val (.scr ns), .val (.int k), e2, e3, e4, e5] S = .ok (.nx [.val (.scr ns), .val (.int k), .val (.int z), .val (.int (14009 + 60013 * k)), e4, e5] S) := by
  have hm : okMul 60013 (k : Int) = true := by unfold okMul; rw [decide_eq_true_eq]; left; omega
  by_cases h : k < ns.length
  · refine ⟨ns[k], ?_⟩
    have h' : (k : Int) < (ns.length : Int) := by omega
    simp [Pair0, sPar, aCons, aNil, eIf, tV, eOp, eUn, eV, eC, eIx, pIx, atI, ixN, pCmp, pLen, pInt, pAdd, pMulB, pMulA, pMul, ofO, Res.bind, h, hm]
  · refine ⟨0, ?_⟩
    simp [Pair0, sPar, aCons, aNil, eIf, tV, eOp, eUn, eV, eC, eIx, pIx, atI, ixN, pCmp, pLen, pInt, pAdd, pMulB, pMulA, pMul, ofO, Res.bind, h, hm]
theorem items_ok (ns : List Int) (S : Sto) (e1 e2 e3 e4 e5 : Slot) : iEn (aCons (eSl (eV 0) oNo (oSo (eC (.int 10)))) aNil) [.val (.scr ns), e1, e2, e3, e4, e5] S = .ok (enumP 0 ((cutP ns none (some 10)).map PV.int), S) := by
  rfl
theorem vat_ok (ns : List Int) (k : Nat) (hk : k < 10) (S : Sto) : ∃ S', f_l_vat_of [.scr ns, .int k] S = .ok (.obj S.length, S') ∧ VatIs S' S.length := by
  obtain ⟨z, h1⟩ := cell_ok ns k S .un .un .un .un
  have h2 := items_ok ns S (.val (.int k)) (.val (.int z)) (.val (.int (14009 + 60013 * k))) .un .un
  obtain ⟨s', e4', e5', h3, k1, k2⟩ := stir_ok S (.val (.scr ns)) (.val (.int k)) (.val (.int z)) (cutP ns none (some 10)) 0 .un .un (14009 + 60013 * k) (by omega) (by omega)
  obtain ⟨a, b, ha, hb, hb2, h4⟩ := vatA_ok S (.val (.scr ns)) (.val (.int k)) e4' e5' z s'
  refine ⟨S ++ [[.int a, .int b, .int 0]], ?_, a, b, 0, by simp, ha, hb, hb2⟩
  unfold f_l_vat_of runF
  rw [vat_eq]
  have e : env0 6 [.scr ns, .int k] = [.val (.scr ns), .val (.int k), .un, .un, .un, .un] := rfl
  rw [e]
  simp only [sSeq, h1, Res.bind, sFor, h2, h3, h4]
end K60
set_option Elab.async false
set_option linter.all false
set_option maxRecDepth 100000
set_option maxHeartbeats 10000001
namespace K60
open PySem PySem.Spec PyProof.Rows L2 J
def GBody : FS := (sSeq (sSet 5 (eB pMin2 (aCons (eOp pSub (eC (.int 40)) (eUn pSum (eV 1))) (aCons (eIf (tV (eOp pNe (eV 1) (eB pTup aNil))) (eIx (eV 1) (eUn pNeg (eC (.int 1)))) (eC (.int 11))) aNil)))) (sSet 1 (eOp pAdd (eV 1) (eIf (tV (eOp pGt (eV 5) (eC (.int 0)))) (eB pTup (aCons (eOp pAdd (eC (.int 1)) (eCall f_l_sip (aCons (eV 0) (aCons (eV 5) aNil)))) aNil)) (eB pTup aNil)))))
def GIf : FS := (sIf (tOrr (tV (eCall f_l_has_hook (aCons (eV 4) (aCons (eV 3) aNil)))) (tOrr (tV (eOp pNe (eOp pMod (eUn pInt (eOp pSub (eUn pSum (eV 1)) (eUn pSum (eV 4)))) (eV 3)) (eC (.int 0)))) (tV (eOp pNe (eCall f_center (aCons (eV 4) (aCons (eV 3) aNil))) (eV 4))))) (sRet (eC (.bl false))) sNext)
def GRet : FS := (sRet (eOp pEq (eLc [6, 7] (iSeq (eCall f_ribbons (aCons (eV 1) (aCons (eV 3) aNil)))) (gT 2 (gNc (gN 6) (gNc (gN 7) gNn))) (tV (eOp pNe (eCall f_center (aCons (eV 6) (aCons (eV 3) aNil))) (eV 4))) (eV 6)) (eB pLst aNil)))
theorem great_is : F_l_great_right = sSeq (sSet 1 (eB pTup aNil)) (sSeq (sFor (iR1 (aCons (eOp pAdd (eC (.int 2)) (eCall f_l_sip (aCons (eV 0) (aCons (eC (.int 5)) aNil)))) aNil)) (gN 2) GBody) (sSeq (sSet 3 (eOp pAdd (eC (.int 2)) (eCall f_l_sip (aCons (eV 0) (aCons (eC (.int 9)) aNil))))) (sSeq (sSet 4 (eCall f_center (aCons (eV 1) (aCons (eV 3) aNil)))) (sSeq GIf GRet)))) := rfl
theorem eB_ok {op : List PV → Option PV} {a : FA} {env : J.Env} {S S1 : Sto} {xs : List PV} {z : PV} (h : a env S = .ok (xs, S1)) (k : op xs = some z) : eB op a env S = .ok (z, S1) := by
  unfold eB
  rw [h]
  show (ofO (op xs)).bind _ = _
  rw [k]
  rfl
theorem len_le_sum : ∀ l : List Nat, (∀ q ∈ l, 0 < q) → l.length ≤ l.sum
  | [], _ => Nat.le_refl _
  | a :: r, h => by
    have := len_le_sum r fun q hq => h q (by simp [hq])
    have := h a (by simp)
    rw [List.length_cons, List.sum_cons]
    omega
theorem pAdd_tup {a b : List PV} (h : a.length + b.length ≤ 1000000) : pAdd (.tup a) (.tup b) = some (.tup (a ++ b)) := by
  unfold pAdd
  exact if_pos h
theorem natsP_append (a b : List Nat) : natsP (a ++ b) = natsP a ++ natsP b := List.map_append
theorem last_ok (s : List Nat) (hs : Sh s) (n : Nat) (a2 a3 a4 a5 a6 a7 : Slot) (S : Sto) : ∃ L : Int, (eIf (tV (eOp pNe (eV 1) (eB pTup aNil))) (eIx (eV 1) (eUn pNeg (eC (.int 1)))) (eC (.int 11))) [.val (.obj n), .val (tI s), a2, a3, a4, a5, a6, a7] S = .ok (.int L, S) ∧ ∀ q ∈ s, L ≤ (q : Int) := by
  have c : (tV (eOp pNe (eV 1) (eB pTup aNil))) [.val (.obj n), .val (tI s), a2, a3, a4, a5, a6, a7] S = .ok (!decide (s = []), S) := by
    have : (eOp pNe (eV 1) (eB pTup aNil)) [.val (.obj n), .val (tI s), a2, a3, a4, a5, a6, a7] S = .ok (.bl (!decide (s = [])), S) := eOp_ok (x := tI s) (y := .tup []) rfl rfl (ne_nil s)
    unfold tV
    rw [this]
    rfl
  unfold eIf
  rw [c]
  rcases List.eq_nil_or_concat s with rfl | ⟨L, b, eL⟩
  · exact ⟨11, rfl, fun q hq => by cases hq⟩
  · rw [List.concat_eq_append] at eL
    subst eL
    refine ⟨(b : Int), ?_, fun q hq => ?_⟩
    · have hne : decide (L ++ [b] = []) = false := by simp
      rw [hne]
      simp only [Res.bind, Bool.not_false, if_true]
      have e : pIx (tI (L ++ [b])) (.int (-1)) = some (.int (b : Int)) := by
        show atI (natsP (L ++ [b])) (-1) = _
        rw [natsP_append]
        exact atI_last _ _
      show (ofO (pIx (tI (L ++ [b])) (.int (-1)))).bind _ = _
      rw [e]
      rfl
    · (rcases List.mem_append.mp hq with hq | hq)
      · have := (List.pairwise_append.mp hs.sh.desc).2.2 q hq b (by simp)
        omega
      · have : q = b := by simpa using hq
        omega
theorem gbody_ok (n : Nat) (S : Sto) (hS : VatIs S n) (s : List Nat) (hs : Sh s) (a2 a3 a4 a5 a6 a7 : Slot) :
    ∃ s' S' r, GBody [.val (.obj n), .val (tI s), a2, a3, a4, a5, a6, a7] S = .ok (.nx [.val (.obj n), .val (tI s'), a2, a3, a4, r, a6, a7] S') ∧ VatIs S' n ∧ Sh s' := by
  obtain ⟨L, h1, h2⟩ := last_ok s hs n a2 a3 a4 a5 a6 a7 S
  have hsum := hs.sum
  have e1 : ∃ ro : Int, sSet 5 (eB pMin2 (aCons (eOp pSub (eC (.int 40)) (eUn pSum (eV 1))) (aCons (eIf (tV (eOp pNe (eV 1) (eB pTup aNil))) (eIx (eV 1) (eUn pNeg (eC (.int 1)))) (eC (.int 11))) aNil))) [.val (.obj n), .val (tI s), a2, a3, a4, a5, a6, a7] S = .ok (.nx [.val (.obj n), .val (tI s), a2, a3, a4, .val (.int ro), a6, a7] S) ∧ ro ≤ 40 - (s.sum : Int) ∧ ro ≤ L := by
    have ha : (aCons (eOp pSub (eC (.int 40)) (eUn pSum (eV 1))) (aCons (eIf (tV (eOp pNe (eV 1) (eB pTup aNil))) (eIx (eV 1) (eUn pNeg (eC (.int 1)))) (eC (.int 11))) aNil)) [.val (.obj n), .val (tI s), a2, a3, a4, a5, a6, a7] S = .ok ([.int (40 - (s.sum : Int)), .int L], S) :=
      aCons_ok (eOp_ok (x := .int 40) rfl (un_eq (x := tI s) rfl (pSum_tI s)) rfl) (aCons_ok h1 rfl)
    refine ⟨if L < 40 - (s.sum : Int) then L else 40 - (s.sum : Int), sSet_ok ?_, by split <;> omega, by split <;> omega⟩
    exact eB_ok ha rfl
  obtain ⟨ro, e1, r1, r2⟩ := e1
  by_cases hr : 0 < ro
  · obtain ⟨d, S', k1, k2, k3, k4⟩ := sip_ok n S ro hS hr (by omega)
    obtain ⟨p, hp⟩ : ∃ p : Nat, 1 + d = (p : Int) := ⟨(1 + d).toNat, by omega⟩
    have hsh : Sh (s ++ [p]) := by
      have hpos : ∀ q ∈ s ++ [p], 0 < q := fun q hq => by
        (rcases List.mem_append.mp hq with hq | hq)
        · exact hs.sh.pos q hq
        · have : q = p := by simpa using hq
          omega
      have hsm : (s ++ [p]).sum ≤ 40 := by rw [List.sum_append]; simp; omega
      refine ⟨⟨List.pairwise_append.mpr ⟨hs.sh.desc, by simp, fun a ha b hb => ?_⟩, hpos, ?_⟩, hsm⟩
      · have : b = p := by simpa using hb
        have := h2 a ha
        show b ≤ a
        omega
      · have := len_le_sum _ hpos
        omega
    refine ⟨s ++ [p], S', .val (.int ro), ?_, k4, hsh⟩
    refine (sSeq_nx e1).trans (sSet_ok (eOp_ok (x := tI s) rfl (y := .tup [.int (p : Int)]) (S2 := S') ?_ ?_))
    · have c : (tV (eOp pGt (eV 5) (eC (.int 0)))) [.val (.obj n), .val (tI s), a2, a3, a4, .val (.int ro), a6, a7] S = .ok (true, S) := by
        simp [tV, eOp, eV, eC, pCmp, Res.bind, ofO, hr]
      have t : (eB pTup (aCons (eOp pAdd (eC (.int 1)) (eCall f_l_sip (aCons (eV 0) (aCons (eV 5) aNil)))) aNil)) [.val (.obj n), .val (tI s), a2, a3, a4, .val (.int ro), a6, a7] S = .ok (.tup [.int (p : Int)], S') := by
        have ha : (aCons (eOp pAdd (eC (.int 1)) (eCall f_l_sip (aCons (eV 0) (aCons (eV 5) aNil)))) aNil) [.val (.obj n), .val (tI s), a2, a3, a4, .val (.int ro), a6, a7] S = .ok ([.int (1 + d)], S') := aCons_ok (eOp_ok (x := .int 1) rfl (eCall_ok (xs := [.obj n, .int ro]) (S1 := S) rfl k1) rfl) rfl
        rw [hp] at ha
        exact eB_ok ha rfl
      unfold eIf
      rw [c]
      exact t
    · have hlen : (natsP s).length + [PV.int (p : Int)].length ≤ 1000000 := by rw [natsP_len]; have := hs.sh.len; simp; omega
      have := pAdd_tup hlen
      show pAdd (.tup (natsP s)) (.tup [.int (p : Int)]) = _
      rw [this]
      unfold tI
      rw [natsP_append]
      rfl
  · refine ⟨s, S, .val (.int ro), ?_, hS, hs⟩
    refine (sSeq_nx e1).trans (sSet_ok (eOp_ok (x := tI s) rfl (y := .tup []) (S2 := S) ?_ ?_))
    · have c : (tV (eOp pGt (eV 5) (eC (.int 0)))) [.val (.obj n), .val (tI s), a2, a3, a4, .val (.int ro), a6, a7] S = .ok (false, S) := by
        simp [tV, eOp, eV, eC, pCmp, Res.bind, ofO]
        omega
      unfold eIf
      rw [c]
      rfl
    · have hlen : (natsP s).length + ([] : List PV).length ≤ 1000000 := by rw [natsP_len]; have := hs.sh.len; simp; omega
      have := pAdd_tup hlen
      show pAdd (.tup (natsP s)) (.tup []) = _
      rw [this, List.append_nil]
      rfl
theorem gloop (n : Nat) (a3 a4 a6 a7 : Slot) : ∀ (xs : List PV) (S : Sto), VatIs S n → ∀ (s : List Nat), Sh s → ∀ (a2 a5 : Slot),
    ∃ s' S' b2 b5, forL (gN 2) GBody xs [.val (.obj n), .val (tI s), a2, a3, a4, a5, a6, a7] S = .ok (.nx [.val (.obj n), .val (tI s'), b2, a3, a4, b5, a6, a7] S') ∧ VatIs S' n ∧ Sh s'
  | [], S, hS, s, hs, a2, a5 => ⟨s, S, a2, a5, rfl, hS, hs⟩
  | x :: r, S, hS, s, hs, a2, a5 => by
    obtain ⟨s1, S1, r1, h1, h2, h3⟩ := gbody_ok n S hS s hs (.val x) a3 a4 a5 a6 a7
    obtain ⟨s2, S2, b2, b5, k1, k2, k3⟩ := gloop n a3 a4 a6 a7 r S1 h2 s1 h3 (.val x) r1
    exact ⟨s2, S2, b2, b5, (forL_nx rfl h1).trans k1, k2, k3⟩
theorem glc (s c : List Nat) (m : Nat) (hm : 1 ≤ m) (hm2 : m ≤ 40) (hs : Sh s) (hC : Ctr m s c) (a0 a2 a5 : Slot) (S : Sto) : ∀ ys : List PV, (∀ y ∈ ys, ∃ b, b ∈ beads s ∧ can s m b = true ∧ y = mv s m b) →
    lcL (gT 2 (gNc (gN 6) (gNc (gN 7) gNn))) (tV (eOp pNe (eCall f_center (aCons (eV 6) (aCons (eV 3) aNil))) (eV 4))) (eV 6) ys [a0, .val (tI s), a2, .val (.int m), .val (tI c), a5, .un, .un] S = .ok ([], S)
  | [], _ => rfl
  | y :: r, h => by
    obtain ⟨b, hb, hc, rfl⟩ := h y (by simp)
    obtain ⟨h1, h2, h3⟩ := lft_ok hs hb hc
    obtain ⟨c', hC', hrun⟩ := center_ok (lft s m b) m h1 hm hm2
    have ec : c' = c := center_same hm hC' hC h2
    subst ec
    refine lcL_no (en := [a0, .val (tI s), a2, .val (.int m), .val (tI c'), a5, .val (tI (lft s m b)), .val (.int (hgt s m b))]) rfl ?_ (glc s c' m hm hm2 hs hC a0 a2 a5 S r fun z hz => h z (by simp [hz]))
    have e : (eOp pNe (eCall f_center (aCons (eV 6) (aCons (eV 3) aNil))) (eV 4)) [a0, .val (tI s), a2, .val (.int m), .val (tI c'), a5, .val (tI (lft s m b)), .val (.int (hgt s m b))] S = .ok (.bl false, S) := by
      refine eOp_ok (eCall_ok (xs := [tI (lft s m b), .int m]) (S1 := S) rfl (hrun S)) (y := tI c') rfl ?_
      rw [ne_tI]
      simp
    unfold tV
    rw [e]
    rfl
theorem great_ok (n : Nat) (S : Sto) (hS : VatIs S n) : ∃ S', f_l_great_right [.obj n] S = .ok (.bl true, S') ∧ VatIs S' n := by
  obtain ⟨d, S1, k1, k2, k3, k4⟩ := sip_ok n S 5 hS (by omega) (by omega)
  have h0 : Sh [] := ⟨⟨.nil, (fun q h => nomatch h), by simp⟩, by simp⟩
  obtain ⟨s, S2, b2, b5, h1, h2, hs⟩ := gloop n .un .un .un .un (rangeP 0 (2 + d).toNat) S1 k4 [] h0 .un .un
  obtain ⟨d', S3, l1, l2, l3, l4⟩ := sip_ok n S2 9 h2 (by omega) (by omega)
  obtain ⟨m, hm⟩ : ∃ m : Nat, 2 + d' = (m : Int) := ⟨(2 + d').toNat, by omega⟩
  have hm1 : 1 ≤ m := by omega
  have hm2 : m ≤ 40 := by omega
  obtain ⟨c, hC, hrun⟩ := center_ok s m hs hm1 hm2
  obtain ⟨c', hC', hrun'⟩ := center_ok c m hC.sh hm1 hm2
  have ec : c' = c := center_same hm1 hC' hC hC.cl
  obtain ⟨ys, y1, y2, y3⟩ := ribbons_ok s m hs hm1 hm2 S3
  refine ⟨S3, runF_rt ?_, l4⟩
  rw [great_is]
  have e0 : sSet 1 (eB pTup aNil) (env0 8 [.obj n]) S = .ok (.nx [.val (.obj n), .val (tI []), .un, .un, .un, .un, .un, .un] S) := rfl
  have r1 : (iR1 (aCons (eOp pAdd (eC (.int 2)) (eCall f_l_sip (aCons (eV 0) (aCons (eC (.int 5)) aNil)))) aNil)) [.val (.obj n), .val (tI []), .un, .un, .un, .un, .un, .un] S = .ok (rangeP 0 (2 + d).toNat, S1) :=
    iR1_eq (aCons_ok (eOp_ok (x := .int 2) rfl (eCall_ok (xs := [.obj n, .int 5]) (S1 := S) rfl k1) rfl) rfl) (bdI_of (by omega) (by omega))
  have e3 : sSet 3 (eOp pAdd (eC (.int 2)) (eCall f_l_sip (aCons (eV 0) (aCons (eC (.int 9)) aNil)))) [.val (.obj n), .val (tI s), b2, .un, .un, b5, .un, .un] S2 = .ok (.nx [.val (.obj n), .val (tI s), b2, .val (.int m), .un, b5, .un, .un] S3) := by
    have := sSet_ok (i := 3) (env := [.val (.obj n), .val (tI s), b2, .un, .un, b5, .un, .un]) (eOp_ok (op := pAdd) (a := eC (.int 2)) (b := eCall f_l_sip (aCons (eV 0) (aCons (eC (.int 9)) aNil))) (S := S2) (S1 := S2) (x := .int 2) rfl (eCall_ok (xs := [.obj n, .int 9]) (S1 := S2) rfl l1) (z := .int (2 + d')) rfl)
    rw [this, hm]
    rfl
  have e4 : sSet 4 (eCall f_center (aCons (eV 1) (aCons (eV 3) aNil))) [.val (.obj n), .val (tI s), b2, .val (.int m), .un, b5, .un, .un] S3 = .ok (.nx [.val (.obj n), .val (tI s), b2, .val (.int m), .val (tI c), b5, .un, .un] S3) := sSet_ok (eCall_ok (xs := [tI s, .int m]) (S1 := S3) rfl (hrun S3))
  have e5 : GIf [.val (.obj n), .val (tI s), b2, .val (.int m), .val (tI c), b5, .un, .un] S3 = .ok (.nx [.val (.obj n), .val (tI s), b2, .val (.int m), .val (tI c), b5, .un, .un] S3) := by
    have t1 : (tV (eCall f_l_has_hook (aCons (eV 4) (aCons (eV 3) aNil)))) [.val (.obj n), .val (tI s), b2, .val (.int m), .val (tI c), b5, .un, .un] S3 = .ok (false, S3) := by
      have q : eCall f_l_has_hook (aCons (eV 4) (aCons (eV 3) aNil)) [.val (.obj n), .val (tI s), b2, .val (.int m), .val (tI c), b5, .un, .un] S3 = .ok (.bl false, S3) := eCall_ok (xs := [tI c, .int m]) (S1 := S3) rfl (hook_ok c m hm1 hC.sh hC.st S3)
      unfold tV
      rw [q]
      rfl
    have t2 : (tV (eOp pNe (eOp pMod (eUn pInt (eOp pSub (eUn pSum (eV 1)) (eUn pSum (eV 4)))) (eV 3)) (eC (.int 0)))) [.val (.obj n), .val (tI s), b2, .val (.int m), .val (tI c), b5, .un, .un] S3 = .ok (false, S3) := by
      have q : (eOp pNe (eOp pMod (eUn pInt (eOp pSub (eUn pSum (eV 1)) (eUn pSum (eV 4)))) (eV 3)) (eC (.int 0))) [.val (.obj n), .val (tI s), b2, .val (.int m), .val (tI c), b5, .un, .un] S3 = .ok (.bl false, S3) := by
        refine eOp_ok (x := .int 0) (eOp_ok (x := .int ((s.sum : Int) - (c.sum : Int))) (un_eq (eOp_ok (un_eq (x := tI s) rfl (pSum_tI s)) (un_eq (x := tI c) rfl (pSum_tI c)) rfl) rfl) (y := .int m) rfl ?_) (y := .int 0) rfl ?_
        · obtain ⟨k, hk⟩ := hC.sm
          have e : (s.sum : Int) - (c.sum : Int) = (k : Int) * (m : Int) := by rw [← hk, Int.natCast_add, Int.natCast_mul]; omega
          have hpos : (0 : Int) < (m : Int) := by omega
          unfold pMod
          simp only
          rw [if_pos hpos, e, Int.mul_emod_left]
        · unfold pNe
          rw [dOK_int]
          simp [eqP]
      unfold tV
      rw [q]
      rfl
    have t3 : (tV (eOp pNe (eCall f_center (aCons (eV 4) (aCons (eV 3) aNil))) (eV 4))) [.val (.obj n), .val (tI s), b2, .val (.int m), .val (tI c), b5, .un, .un] S3 = .ok (false, S3) := by
      have q : (eOp pNe (eCall f_center (aCons (eV 4) (aCons (eV 3) aNil))) (eV 4)) [.val (.obj n), .val (tI s), b2, .val (.int m), .val (tI c), b5, .un, .un] S3 = .ok (.bl false, S3) := by
        refine eOp_ok (eCall_ok (xs := [tI c, .int m]) (S1 := S3) rfl (hrun' S3)) (y := tI c) rfl ?_
        rw [ec, ne_tI]
        simp
      unfold tV
      rw [q]
      rfl
    unfold GIf sIf tOrr
    rw [t1]
    simp only [Res.bind]
    rw [t2]
    simp only [Res.bind]
    rw [t3]
    rfl
  have e6 : GRet [.val (.obj n), .val (tI s), b2, .val (.int m), .val (tI c), b5, .un, .un] S3 = .ok (.rt (.bl true) S3) := by
    have r2 : iSeq (eCall f_ribbons (aCons (eV 1) (aCons (eV 3) aNil))) [.val (.obj n), .val (tI s), b2, .val (.int m), .val (tI c), b5, .un, .un] S3 = .ok (ys, S3) := by
      have q : eCall f_ribbons (aCons (eV 1) (aCons (eV 3) aNil)) [.val (.obj n), .val (tI s), b2, .val (.int m), .val (tI c), b5, .un, .un] S3 = .ok (.tup ys, S3) := eCall_ok (xs := [tI s, .int m]) (S1 := S3) rfl y1
      unfold iSeq
      rw [q]
      rfl
    exact sRet_ok (eOp_ok (lc_eq (S1 := S3) r2 (by omega) (glc s c m hm1 hm2 hs hC _ _ _ S3 ys y3)) (y := .lst []) rfl (by decide))
  exact (sSeq_nx e0).trans ((sSeq_nx (sFor_ok r1 h1)).trans ((sSeq_nx e3).trans ((sSeq_nx e4).trans ((sSeq_nx e5).trans e6))))
end K60
set_option Elab.async false
set_option linter.all false
set_option maxRecDepth 100000
set_option maxHeartbeats 10000001
namespace K60
open PySem PySem.Spec PyProof.Rows L2 J
theorem Sh.of {s : List Nat} (h : (decide (s.Pairwise (· ≥ ·)) && (s.all (fun q => decide (0 < q)) && decide (s.sum ≤ 40))) = true) : Sh s := by
  simp only [Bool.and_eq_true, decide_eq_true_eq, List.all_eq_true] at h
  obtain ⟨h1, h2, h3⟩ := h
  refine ⟨⟨h1, h2, ?_⟩, h3⟩
  have := len_le_sum s h2
  omega
structure Fin (m : Nat) (s : List Nat) : Prop where
  cut : ∃ L, (∀ S : Sto, f_l_cut [tI s, .int m] S = .ok (.lst L, S)) ∧ ∀ S : Sto, f_ribbons [tI s, .int m] S = .ok (.tup L, S)
  til : ∃ c c' : List Nat, f_center [tI s, .int m] [] = .ok (tI c, []) ∧ f_center [tI (tilt s), .int m] [] = .ok (tI c', []) ∧ tilt c = c' ∧ Sh (tilt s) ∧ pRpr false (.lst [tI c, tI c]) (.lst [tI c, tI c]) = some (.bl false)
theorem Fin.of {m : Nat} {mi : Int} {s s' c c' : List Nat} {v v' w w' : PV} {L : List PV} (em : (m : Int) = mi) (ev : tI s = v) (ev' : tI s' = v') (ew : tI c = w) (ew' : tI c' = w') (h1 : ∀ S : Sto, f_l_cut [v, .int mi] S = .ok (.lst L, S)) (h2 : ∀ S : Sto, f_ribbons [v, .int mi] S = .ok (.tup L, S))
    (h3 : f_center [v, .int mi] [] = .ok (w, [])) (h4 : f_center [v', .int mi] [] = .ok (w', []))
    (e1 : tilt s = s') (e2 : tilt c = c') (hs' : Sh s') (hr : pRpr false (.lst [tI c, tI c]) (.lst [tI c, tI c]) = some (.bl false)) : Fin m s := by
  subst e1 em ev ev' ew ew'
  exact ⟨⟨L, h1, h2⟩, c, c', h3, h4, e2, hs', hr⟩
theorem natsP_inj : ∀ {a b : List Nat}, natsP a = natsP b → a = b
  | [], [], _ => rfl
  | [], y :: b, h => by simp [natsP] at h
  | x :: a, [], h => by simp [natsP] at h
  | x :: a, y :: b, h => by
    rw [natsP_cons, natsP_cons] at h
    simp only [List.cons.injEq, PV.int.injEq] at h
    rw [natsP_inj h.2]
    congr 1
    omega
theorem tI_inj {a b : List Nat} (h : tI a = tI b) : a = b := natsP_inj (by simpa [tI] using h)
/-! all shapes of a size -/
def allP : Nat → Nat → Nat → List (List Nat)
  | 0, n, _ => if n = 0 then [[]] else []
  | f + 1, n, k => if n = 0 then [[]] else (List.range' 1 (min n k)).flatMap fun a => (allP f (n - a) a).map (a :: ·)
theorem allP_ok : ∀ (f n k : Nat) (s : List Nat), Desc s → (∀ q ∈ s, 0 < q) → (∀ q ∈ s, q ≤ k) → s.sum = n → s.length ≤ f → s ∈ allP f n k
  | 0, n, k, s, _, _, _, h4, h5 => by
    have e : s = [] := List.eq_nil_of_length_eq_zero (by omega)
    subst e
    have : n = 0 := by simpa using h4.symm
    simp [allP, this]
  | f + 1, n, k, [], _, _, _, h4, _ => by
    have : n = 0 := by simpa using h4.symm
    simp [allP, this]
  | f + 1, n, k, a :: r, h1, h2, h3, h4, h5 => by
    have ha := h2 a (by simp)
    rw [List.sum_cons] at h4
    have hn : n ≠ 0 := by omega
    unfold allP
    rw [if_neg hn, List.mem_flatMap]
    obtain ⟨g1, g2⟩ := List.pairwise_cons.mp h1
    refine ⟨a, ?_, List.mem_map.mpr ⟨r, allP_ok f (n - a) a r g2 (fun q hq => h2 q (by simp [hq])) (fun q hq => g1 q hq) (by omega) (by simpa using h5), rfl⟩⟩
    rw [List.mem_range'_1]
    have := h3 a (by simp)
    omega
theorem in_all {s : List Nat} (hs : Sh s) {n : Nat} (h : s.sum = n) (h7 : n ≤ 7) : s ∈ allP 7 n 7 :=
  allP_ok 7 n 7 s hs.sh.desc hs.sh.pos (fun q hq => by have := le_sum s q hq; omega) h (by have := len_le_sum s hs.sh.pos; omega)
/-! a size greater than the shape -/
theorem bead_le : ∀ (s : List Nat), (∀ q ∈ s, 0 < q) → ∀ b ∈ beads s, b ≤ s.sum
  | [], _, b, h => by cases h
  | p :: r, hp, b, h => by
    have hr : ∀ q ∈ r, 0 < q := fun q hq => hp q (by simp [hq])
    rw [List.sum_cons]
    simp only [beads, List.mem_cons] at h
    rcases h with rfl | h
    · have := len_le_sum r hr; omega
    · have := bead_le r hr b h; omega
theorem ctr_self {m : Nat} {s : List Nat} (hs : Sh s) (h : Stuck m s) : Ctr m s s := ⟨hs, h, fun _ => rfl, 0, by omega⟩
theorem center_big (s : List Nat) (hs : Sh s) (h7 : s.sum ≤ 7) (S : Sto) : f_center [tI s, .int ((s.sum : Int) + 1)] S = .ok (tI s, S) := by
  obtain ⟨c, hC, hrun⟩ := center_ok s (s.sum + 1) hs (by omega) (by omega)
  have st : Stuck (s.sum + 1) s := fun b hb hm => by have := bead_le s hs.sh.pos b hb; omega
  have e : c = s := center_same (by omega) hC (ctr_self hs st) fun _ => rfl
  have := hrun S
  rw [e] at this
  exact this
theorem center_one (s : List Nat) (hs : Sh s) (S : Sto) : f_center [tI s, .int 1] S = .ok (.tup [], S) := by
  obtain ⟨c, hC, hrun⟩ := center_ok s 1 hs (by omega) (by omega)
  have e : c = [] := by
    rcases List.eq_nil_or_concat c with rfl | ⟨L, b, eL⟩
    · rfl
    · rw [List.concat_eq_append] at eL
      exfalso
      have hl : L.length < c.length := by rw [eL]; simp
      have hb := bead_at c L.length hl
      have e1 : c[L.length] = b := by simp [eL]
      have e2 : c.length - 1 - L.length = 0 := by rw [eL]; simp
      rw [e1, e2, Nat.add_zero] at hb
      have hpos := hC.sh.sh.pos b (by rw [eL]; simp)
      have down : ∀ x, x ∈ beads c → 0 ∈ beads c := by
        intro x
        induction x with
        | zero => exact id
        | succ x ih => exact fun h => ih (hC.st _ h (by omega))
      have h0 := down b hb
      have hmin : ∀ (t : List Nat), (∀ q ∈ t, 0 < q) → 0 ∉ beads t := by
        intro t
        induction t with
        | nil => intro _ h; cases h
        | cons p r ih =>
          intro hp h
          simp only [beads, List.mem_cons] at h
          have := hp p (by simp)
          rcases h with h | h
          · omega
          · exact ih (fun q hq => hp q (by simp [hq])) h
      exact hmin c hC.sh.sh.pos h0
  have := hrun S
  rw [e] at this
  exact this
/-! worn -/
theorem dip_ok (n : Nat) (S : Sto) (xs : List PV) (h0 : 0 < xs.length) (h1 : xs.length < 1000000) (hS : VatIs S n) :
    ∃ v S', v ∈ xs ∧ f_l_dip [.obj n, .lst xs] S = .ok (v, S') ∧ VatIs S' n := by
  obtain ⟨d, S', k1, k2, k3, k4⟩ := sip_ok n S (xs.length : Int) hS (by omega) (by omega)
  obtain ⟨j, rfl⟩ : ∃ j : Nat, d = (j : Int) := ⟨d.toNat, by omega⟩
  have hj : j < xs.length := by omega
  refine ⟨xs[j], S', List.getElem_mem hj, ?_, k4⟩
  have e : eCall f_l_sip (aCons (eV 0) (aCons (eUn pLen (eV 1)) aNil)) [.val (.obj n), .val (.lst xs)] S = .ok (.int (j : Int), S') := eCall_ok (xs := [.obj n, .int (xs.length : Int)]) (by simp [aCons, aNil, eV, eUn, pLen, ofO, Res.bind]) k1
  have a : atI xs (j : Int) = some xs[j] := atI_nat (List.getElem?_eq_getElem hj)
  have h : eIx (eV 1) (eCall f_l_sip (aCons (eV 0) (aCons (eUn pLen (eV 1)) aNil))) [.val (.obj n), .val (.lst xs)] S = .ok (xs[j], S') := by
    unfold eIx
    have e1 : eV 1 [.val (.obj n), .val (.lst xs)] S = .ok (.lst xs, S) := rfl
    rw [e1]
    simp only [Res.bind]
    rw [e]
    simp only [pIx, a, ofO]
  exact runF_rt (sRet_ok h)
def WnBody : FS := (sSeq (sSet 4 (eCall f_l_cut (aCons (eV 1) (aCons (eV 2) aNil)))) (sIf (tV (eOp pNe (eV 4) (eB pLst aNil))) (sSet 1 (eIx (eCall f_l_dip (aCons (eV 0) (aCons (eV 4) aNil))) (eC (.int 0)))) sNext))
theorem worn_is : F_l_worn = sSeq (sFor (iR1 (aCons (eOp pAdd (eOp pDiv (eUn pSum (eV 1)) (eV 2)) (eC (.int 1))) aNil)) (gN 3) WnBody) (sRet (eV 1)) := rfl
theorem ne_list {L : List PV} (h : dOK (.lst L) = true) : pNe (.lst L) (.lst []) = some (.bl (!L.isEmpty)) := by
  unfold pNe
  rw [h]
  have : dOK (.lst []) = true := by decide
  rw [this]
  (simp only [Bool.and_self, if_true])
  cases L with
  | nil => simp [eqP, eqPL]
  | cons a r => simp [eqP, eqPL]
theorem dOK_sub (s : List Nat) (m : Nat) : ∀ L : List PV, (∀ y ∈ L, ∃ b, b ∈ beads s ∧ can s m b = true ∧ y = mv s m b) → isDL L = true ∧ dpPL L ≤ 2
  | [], _ => by simp [isDL, dpPL]
  | y :: r, h => by
    obtain ⟨b, _, _, rfl⟩ := h y (by simp)
    obtain ⟨h1, h2⟩ := dOK_mv s m b
    obtain ⟨h3, h4⟩ := dOK_sub s m r fun z hz => h z (by simp [hz])
    rw [isDL, dpPL, h1, h3]
    exact ⟨rfl, by omega⟩
theorem ribs_nil {s : List Nat} {m : Nat} (hs : Sh s) (h1 : 1 ≤ m) (h2 : m ≤ 40) {L : List PV} (h : ∀ S : Sto, f_ribbons [tI s, .int m] S = .ok (.tup L, S)) :
    L.length ≤ 40 ∧ (∀ y ∈ L, ∃ b, b ∈ beads s ∧ can s m b = true ∧ y = mv s m b) ∧ (L = [] ↔ Stuck m s) := by
  have hp : (isort J.ltP (moves s m)).Perm (moves s m) := isort_perm _ _
  have e := (h []).symm.trans (ribbons_is s m hs h1 h2 [])
  simp only [Res.ok.injEq, Prod.mk.injEq, PV.tup.injEq, and_true] at e
  subst e
  refine ⟨by rw [hp.length_eq]; exact moves_len s m hs, fun y hy => moves_all s m y (hp.mem_iff.mp hy), fun z => ?_, fun z => ?_⟩
  · rw [z] at hp
    exact stuck_of (List.nil_perm.mp hp)
  · rw [moves_of z] at hp ⊢
    rfl
theorem wn_stay (m : Nat) (h1 : 1 ≤ m) (h2 : m ≤ 5) (s : List Nat) (hs : Sh s) (fs : Fin m s) (st : Stuck m s) (n : Nat) (S : Sto) : ∀ (xs : List PV) (a3 a4 : Slot),
    ∃ b3 b4, forL (gN 3) WnBody xs [.val (.obj n), .val (tI s), .val (.int m), a3, a4] S = .ok (.nx [.val (.obj n), .val (tI s), .val (.int m), b3, b4] S)
  | [], a3, a4 => ⟨a3, a4, rfl⟩
  | x :: xs, a3, a4 => by
    obtain ⟨L, c1, c2⟩ := fs.cut
    obtain ⟨l1, l2, l3⟩ := ribs_nil hs h1 (by omega) c2
    have eL := l3.mpr st
    subst eL
    have e1 : sSet 4 (eCall f_l_cut (aCons (eV 1) (aCons (eV 2) aNil))) [.val (.obj n), .val (tI s), .val (.int m), .val x, a4] S = .ok (.nx [.val (.obj n), .val (tI s), .val (.int m), .val x, .val (.lst [])] S) := sSet_ok (eCall_ok (xs := [tI s, .int m]) (S1 := S) rfl (c1 S))
    have hb : WnBody [.val (.obj n), .val (tI s), .val (.int m), .val x, a4] S = .ok (.nx [.val (.obj n), .val (tI s), .val (.int m), .val x, .val (.lst [])] S) := (sSeq_nx e1).trans rfl
    obtain ⟨b3, b4, ih⟩ := wn_stay m h1 h2 s hs fs st n S xs (.val x) (.val (.lst []))
    exact ⟨b3, b4, (forL_nx rfl hb).trans ih⟩
theorem wnloop (m : Nat) (h1 : 1 ≤ m) (h2 : m ≤ 5) (fin : ∀ s : List Nat, Sh s → s.sum ≤ 7 → Fin m s) (n : Nat) : ∀ (xs : List PV) (S : Sto) (s : List Nat) (a3 a4 : Slot), VatIs S n → Sh s → s.sum ≤ 7 →
    ∃ s' S' b3 b4, forL (gN 3) WnBody xs [.val (.obj n), .val (tI s), .val (.int m), a3, a4] S = .ok (.nx [.val (.obj n), .val (tI s'), .val (.int m), b3, b4] S') ∧ VatIs S' n ∧ Sh s' ∧ (∀ r, cls m r s' = cls m r s) ∧ (Stuck m s' ∨ s'.sum + xs.length * m ≤ s.sum)
  | [], S, s, a3, a4, hS, hs, h7 => ⟨s, S, a3, a4, rfl, hS, hs, fun _ => rfl, .inr (by simp)⟩
  | x :: xs, S, s, a3, a4, hS, hs, h7 => by
    obtain ⟨L, c1, c2⟩ := (fin s hs h7).cut
    obtain ⟨l1, l2, l3⟩ := ribs_nil hs h1 (by omega) c2
    have hd : dOK (.lst L) = true := by
      obtain ⟨g1, g2⟩ := dOK_sub s m L l2
      unfold dOK
      rw [isD, dpP, g1, Bool.true_and, decide_eq_true_eq]
      omega
    have e1 : sSet 4 (eCall f_l_cut (aCons (eV 1) (aCons (eV 2) aNil))) [.val (.obj n), .val (tI s), .val (.int m), .val x, a4] S = .ok (.nx [.val (.obj n), .val (tI s), .val (.int m), .val x, .val (.lst L)] S) := sSet_ok (eCall_ok (xs := [tI s, .int m]) (S1 := S) rfl (c1 S))
    have cnd : (tV (eOp pNe (eV 4) (eB pLst aNil))) [.val (.obj n), .val (tI s), .val (.int m), .val x, .val (.lst L)] S = .ok (!L.isEmpty, S) := by
      have : (eOp pNe (eV 4) (eB pLst aNil)) [.val (.obj n), .val (tI s), .val (.int m), .val x, .val (.lst L)] S = .ok (.bl (!L.isEmpty), S) := eOp_ok (x := .lst L) (y := .lst []) rfl rfl (ne_list hd)
      unfold tV
      rw [this]
      rfl
    cases L with
    | nil =>
      obtain ⟨b3, b4, r1⟩ := wn_stay m h1 h2 s hs (fin s hs h7) (l3.mp rfl) n S (x :: xs) a3 a4
      exact ⟨s, S, b3, b4, r1, hS, hs, fun _ => rfl, .inl (l3.mp rfl)⟩
    | cons y r =>
      obtain ⟨v, S1, v1, v2, v3⟩ := dip_ok n S (y :: r) (by simp) (by omega) hS
      obtain ⟨b, b1, b2, rfl⟩ := l2 v v1
      obtain ⟨g1, g2, g3⟩ := lft_ok hs b1 b2
      have hb : WnBody [.val (.obj n), .val (tI s), .val (.int m), .val x, a4] S = .ok (.nx [.val (.obj n), .val (tI (lft s m b)), .val (.int m), .val x, .val (.lst (y :: r))] S1) := by
        refine (sSeq_nx e1).trans ?_
        have q : sSet 1 (eIx (eCall f_l_dip (aCons (eV 0) (aCons (eV 4) aNil))) (eC (.int 0))) [.val (.obj n), .val (tI s), .val (.int m), .val x, .val (.lst (y :: r))] S = .ok (.nx [.val (.obj n), .val (tI (lft s m b)), .val (.int m), .val x, .val (.lst (y :: r))] S1) := by
          refine sSet_ok (v := tI (lft s m b)) (S1 := S1) ?_
          have q1 : eCall f_l_dip (aCons (eV 0) (aCons (eV 4) aNil)) [.val (.obj n), .val (tI s), .val (.int m), .val x, .val (.lst (y :: r))] S = .ok (mv s m b, S1) := eCall_ok (xs := [.obj n, .lst (y :: r)]) (S1 := S) rfl v2
          unfold eIx
          rw [q1]
          rfl
        unfold sIf
        rw [cnd]
        exact q
      obtain ⟨s', S', b3, b4, r1, r2, r3, r4, r5⟩ := wnloop m h1 h2 fin n xs S1 (lft s m b) (.val x) (.val (.lst (y :: r))) v3 g1 (by omega)
      refine ⟨s', S', b3, b4, (forL_nx rfl hb).trans r1, r2, r3, fun q => (r4 q).trans (g2 q), ?_⟩
      rcases r5 with r5 | r5
      · exact .inl r5
      · refine .inr ?_
        rw [List.length_cons, Nat.succ_mul]
        omega
theorem worn_ok (m : Nat) (h1 : 1 ≤ m) (h2 : m ≤ 5) (fin : ∀ s : List Nat, Sh s → s.sum ≤ 7 → Fin m s) (n : Nat) (S : Sto) (s : List Nat) (hS : VatIs S n) (hs : Sh s) (h7 : s.sum ≤ 7) :
    ∃ c S', f_l_worn [.obj n, tI s, .int m] S = .ok (tI c, S') ∧ VatIs S' n ∧ Sh c ∧ Stuck m c ∧ ∀ r, cls m r c = cls m r s := by
  obtain ⟨q, hqd⟩ : ∃ q, q = s.sum / m := ⟨_, rfl⟩
  have hq : (s.sum : Int) / (m : Int) = (q : Int) := by rw [hqd]; simp
  have hle : q ≤ 7 := by rw [hqd]; exact Nat.le_trans (Nat.div_le_self _ _) h7
  have hlt := Nat.lt_mul_div_succ s.sum h1
  rw [Nat.mul_comm, ← hqd] at hlt
  obtain ⟨c, S', b3, b4, r1, r2, r3, r4, r5⟩ := wnloop m h1 h2 fin n (rangeP 0 (q + 1)) S s .un .un hS hs h7
  refine ⟨c, S', runF_rt ?_, r2, r3, ?_, r4⟩
  · rw [worn_is]
    have e0 : env0 5 [.obj n, tI s, .int m] = [.val (.obj n), .val (tI s), .val (.int m), .un, .un] := rfl
    rw [e0]
    have hd : pDiv (.int (s.sum : Int)) (.int (m : Int)) = some (.int (q : Int)) := by
      unfold pDiv
      simp only
      rw [if_pos (by omega), hq]
    have e1 : (iR1 (aCons (eOp pAdd (eOp pDiv (eUn pSum (eV 1)) (eV 2)) (eC (.int 1))) aNil)) [.val (.obj n), .val (tI s), .val (.int m), .un, .un] S = .ok (rangeP 0 (q + 1), S) := by
      have := iR1_eq (f := aCons (eOp pAdd (eOp pDiv (eUn pSum (eV 1)) (eV 2)) (eC (.int 1))) aNil) (env := [.val (.obj n), .val (tI s), .val (.int m), .un, .un]) (S := S) (aCons_ok (eOp_ok (eOp_ok (un_eq (x := tI s) rfl (pSum_tI s)) (y := .int m) rfl hd) (y := .int 1) rfl rfl) rfl) (bdI_of (by omega) (by omega))
      have ez : ((q : Int) + 1).toNat = q + 1 := by omega
      rwa [ez] at this
    exact (sSeq_nx (sFor_ok e1 r1)).trans rfl
  · rcases r5 with r5 | r5
    · exact r5
    · exfalso
      have hl : (rangeP 0 (q + 1)).length = q + 1 := by unfold rangeP; rw [List.length_map, List.length_range]
      rw [hl] at r5
      omega
end K60
set_option Elab.async false
set_option maxRecDepth 100000
set_option maxHeartbeats 0
namespace K60
open PySem PySem.Spec PyProof.Rows L2 J
theorem cut_e_1 (S : Sto) : f_l_cut [.tup [], .int 1] S = .ok (.lst [], S) := by kernel_rfl
theorem rib_e_1 (S : Sto) : f_ribbons [.tup [], .int 1] S = .ok (.tup [], S) := by kernel_rfl
theorem cen_e_1 : f_center [.tup [], .int 1] [] = .ok (.tup [], []) := by kernel_rfl
theorem cut_e_2 (S : Sto) : f_l_cut [.tup [], .int 2] S = .ok (.lst [], S) := by kernel_rfl
theorem rib_e_2 (S : Sto) : f_ribbons [.tup [], .int 2] S = .ok (.tup [], S) := by kernel_rfl
theorem cen_e_2 : f_center [.tup [], .int 2] [] = .ok (.tup [], []) := by kernel_rfl
theorem cut_e_3 (S : Sto) : f_l_cut [.tup [], .int 3] S = .ok (.lst [], S) := by kernel_rfl
theorem rib_e_3 (S : Sto) : f_ribbons [.tup [], .int 3] S = .ok (.tup [], S) := by kernel_rfl
theorem cen_e_3 : f_center [.tup [], .int 3] [] = .ok (.tup [], []) := by kernel_rfl
theorem cut_e_4 (S : Sto) : f_l_cut [.tup [], .int 4] S = .ok (.lst [], S) := by kernel_rfl
theorem rib_e_4 (S : Sto) : f_ribbons [.tup [], .int 4] S = .ok (.tup [], S) := by kernel_rfl
theorem cen_e_4 : f_center [.tup [], .int 4] [] = .ok (.tup [], []) := by kernel_rfl
theorem cut_e_5 (S : Sto) : f_l_cut [.tup [], .int 5] S = .ok (.lst [], S) := by kernel_rfl
theorem rib_e_5 (S : Sto) : f_ribbons [.tup [], .int 5] S = .ok (.tup [], S) := by kernel_rfl
theorem cen_e_5 : f_center [.tup [], .int 5] [] = .ok (.tup [], []) := by kernel_rfl
theorem cut_1_1 (S : Sto) : f_l_cut [.tup [.int 1], .int 1] S = .ok (.lst [.tup [.tup [], .int 0]], S) := by kernel_rfl
theorem rib_1_1 (S : Sto) : f_ribbons [.tup [.int 1], .int 1] S = .ok (.tup [.tup [.tup [], .int 0]], S) := by kernel_rfl
theorem cen_1_1 : f_center [.tup [.int 1], .int 1] [] = .ok (.tup [], []) := by kernel_rfl
theorem cut_1_2 (S : Sto) : f_l_cut [.tup [.int 1], .int 2] S = .ok (.lst [], S) := by kernel_rfl
theorem rib_1_2 (S : Sto) : f_ribbons [.tup [.int 1], .int 2] S = .ok (.tup [], S) := by kernel_rfl
theorem cen_1_2 : f_center [.tup [.int 1], .int 2] [] = .ok (.tup [.int 1], []) := by kernel_rfl
theorem cut_1_3 (S : Sto) : f_l_cut [.tup [.int 1], .int 3] S = .ok (.lst [], S) := by kernel_rfl
theorem rib_1_3 (S : Sto) : f_ribbons [.tup [.int 1], .int 3] S = .ok (.tup [], S) := by kernel_rfl
theorem cen_1_3 : f_center [.tup [.int 1], .int 3] [] = .ok (.tup [.int 1], []) := by kernel_rfl
theorem cut_1_4 (S : Sto) : f_l_cut [.tup [.int 1], .int 4] S = .ok (.lst [], S) := by kernel_rfl
theorem rib_1_4 (S : Sto) : f_ribbons [.tup [.int 1], .int 4] S = .ok (.tup [], S) := by kernel_rfl
theorem cen_1_4 : f_center [.tup [.int 1], .int 4] [] = .ok (.tup [.int 1], []) := by kernel_rfl
theorem cut_1_5 (S : Sto) : f_l_cut [.tup [.int 1], .int 5] S = .ok (.lst [], S) := by kernel_rfl
theorem rib_1_5 (S : Sto) : f_ribbons [.tup [.int 1], .int 5] S = .ok (.tup [], S) := by kernel_rfl
theorem cen_1_5 : f_center [.tup [.int 1], .int 5] [] = .ok (.tup [.int 1], []) := by kernel_rfl
theorem cut_2_1 (S : Sto) : f_l_cut [.tup [.int 2], .int 1] S = .ok (.lst [.tup [.tup [.int 1], .int 0]], S) := by kernel_rfl
theorem rib_2_1 (S : Sto) : f_ribbons [.tup [.int 2], .int 1] S = .ok (.tup [.tup [.tup [.int 1], .int 0]], S) := by kernel_rfl
theorem cen_2_1 : f_center [.tup [.int 2], .int 1] [] = .ok (.tup [], []) := by kernel_rfl
theorem cut_2_2 (S : Sto) : f_l_cut [.tup [.int 2], .int 2] S = .ok (.lst [.tup [.tup [], .int 0]], S) := by kernel_rfl
theorem rib_2_2 (S : Sto) : f_ribbons [.tup [.int 2], .int 2] S = .ok (.tup [.tup [.tup [], .int 0]], S) := by kernel_rfl
theorem cen_2_2 : f_center [.tup [.int 2], .int 2] [] = .ok (.tup [], []) := by kernel_rfl
theorem cut_2_3 (S : Sto) : f_l_cut [.tup [.int 2], .int 3] S = .ok (.lst [], S) := by kernel_rfl
theorem rib_2_3 (S : Sto) : f_ribbons [.tup [.int 2], .int 3] S = .ok (.tup [], S) := by kernel_rfl
theorem cen_2_3 : f_center [.tup [.int 2], .int 3] [] = .ok (.tup [.int 2], []) := by kernel_rfl
theorem cut_2_4 (S : Sto) : f_l_cut [.tup [.int 2], .int 4] S = .ok (.lst [], S) := by kernel_rfl
theorem rib_2_4 (S : Sto) : f_ribbons [.tup [.int 2], .int 4] S = .ok (.tup [], S) := by kernel_rfl
theorem cen_2_4 : f_center [.tup [.int 2], .int 4] [] = .ok (.tup [.int 2], []) := by kernel_rfl
theorem cut_2_5 (S : Sto) : f_l_cut [.tup [.int 2], .int 5] S = .ok (.lst [], S) := by kernel_rfl
theorem rib_2_5 (S : Sto) : f_ribbons [.tup [.int 2], .int 5] S = .ok (.tup [], S) := by kernel_rfl
theorem cen_2_5 : f_center [.tup [.int 2], .int 5] [] = .ok (.tup [.int 2], []) := by kernel_rfl
theorem cut_1_1_1 (S : Sto) : f_l_cut [.tup [.int 1, .int 1], .int 1] S = .ok (.lst [.tup [.tup [.int 1], .int 0]], S) := by kernel_rfl
theorem rib_1_1_1 (S : Sto) : f_ribbons [.tup [.int 1, .int 1], .int 1] S = .ok (.tup [.tup [.tup [.int 1], .int 0]], S) := by kernel_rfl
theorem cen_1_1_1 : f_center [.tup [.int 1, .int 1], .int 1] [] = .ok (.tup [], []) := by kernel_rfl
theorem cut_1_1_2 (S : Sto) : f_l_cut [.tup [.int 1, .int 1], .int 2] S = .ok (.lst [.tup [.tup [], .int 1]], S) := by kernel_rfl
theorem rib_1_1_2 (S : Sto) : f_ribbons [.tup [.int 1, .int 1], .int 2] S = .ok (.tup [.tup [.tup [], .int 1]], S) := by kernel_rfl
theorem cen_1_1_2 : f_center [.tup [.int 1, .int 1], .int 2] [] = .ok (.tup [], []) := by kernel_rfl
theorem cut_1_1_3 (S : Sto) : f_l_cut [.tup [.int 1, .int 1], .int 3] S = .ok (.lst [], S) := by kernel_rfl
theorem rib_1_1_3 (S : Sto) : f_ribbons [.tup [.int 1, .int 1], .int 3] S = .ok (.tup [], S) := by kernel_rfl
theorem cen_1_1_3 : f_center [.tup [.int 1, .int 1], .int 3] [] = .ok (.tup [.int 1, .int 1], []) := by kernel_rfl
theorem cut_1_1_4 (S : Sto) : f_l_cut [.tup [.int 1, .int 1], .int 4] S = .ok (.lst [], S) := by kernel_rfl
theorem rib_1_1_4 (S : Sto) : f_ribbons [.tup [.int 1, .int 1], .int 4] S = .ok (.tup [], S) := by kernel_rfl
theorem cen_1_1_4 : f_center [.tup [.int 1, .int 1], .int 4] [] = .ok (.tup [.int 1, .int 1], []) := by kernel_rfl
theorem cut_1_1_5 (S : Sto) : f_l_cut [.tup [.int 1, .int 1], .int 5] S = .ok (.lst [], S) := by kernel_rfl
theorem rib_1_1_5 (S : Sto) : f_ribbons [.tup [.int 1, .int 1], .int 5] S = .ok (.tup [], S) := by kernel_rfl
theorem cen_1_1_5 : f_center [.tup [.int 1, .int 1], .int 5] [] = .ok (.tup [.int 1, .int 1], []) := by kernel_rfl
theorem cut_3_1 (S : Sto) : f_l_cut [.tup [.int 3], .int 1] S = .ok (.lst [.tup [.tup [.int 2], .int 0]], S) := by kernel_rfl
theorem rib_3_1 (S : Sto) : f_ribbons [.tup [.int 3], .int 1] S = .ok (.tup [.tup [.tup [.int 2], .int 0]], S) := by kernel_rfl
theorem cen_3_1 : f_center [.tup [.int 3], .int 1] [] = .ok (.tup [], []) := by kernel_rfl
theorem cut_3_2 (S : Sto) : f_l_cut [.tup [.int 3], .int 2] S = .ok (.lst [.tup [.tup [.int 1], .int 0]], S) := by kernel_rfl
theorem rib_3_2 (S : Sto) : f_ribbons [.tup [.int 3], .int 2] S = .ok (.tup [.tup [.tup [.int 1], .int 0]], S) := by kernel_rfl
theorem cen_3_2 : f_center [.tup [.int 3], .int 2] [] = .ok (.tup [.int 1], []) := by kernel_rfl
theorem cut_3_3 (S : Sto) : f_l_cut [.tup [.int 3], .int 3] S = .ok (.lst [.tup [.tup [], .int 0]], S) := by kernel_rfl
theorem rib_3_3 (S : Sto) : f_ribbons [.tup [.int 3], .int 3] S = .ok (.tup [.tup [.tup [], .int 0]], S) := by kernel_rfl
theorem cen_3_3 : f_center [.tup [.int 3], .int 3] [] = .ok (.tup [], []) := by kernel_rfl
theorem cut_3_4 (S : Sto) : f_l_cut [.tup [.int 3], .int 4] S = .ok (.lst [], S) := by kernel_rfl
theorem rib_3_4 (S : Sto) : f_ribbons [.tup [.int 3], .int 4] S = .ok (.tup [], S) := by kernel_rfl
theorem cen_3_4 : f_center [.tup [.int 3], .int 4] [] = .ok (.tup [.int 3], []) := by kernel_rfl
theorem cut_3_5 (S : Sto) : f_l_cut [.tup [.int 3], .int 5] S = .ok (.lst [], S) := by kernel_rfl
theorem rib_3_5 (S : Sto) : f_ribbons [.tup [.int 3], .int 5] S = .ok (.tup [], S) := by kernel_rfl
theorem cen_3_5 : f_center [.tup [.int 3], .int 5] [] = .ok (.tup [.int 3], []) := by kernel_rfl
theorem cut_2_1_1 (S : Sto) : f_l_cut [.tup [.int 2, .int 1], .int 1] S = .ok (.lst [.tup [.tup [.int 1, .int 1], .int 0], .tup [.tup [.int 2], .int 0]], S) := by kernel_rfl
theorem rib_2_1_1 (S : Sto) : f_ribbons [.tup [.int 2, .int 1], .int 1] S = .ok (.tup [.tup [.tup [.int 1, .int 1], .int 0], .tup [.tup [.int 2], .int 0]], S) := by kernel_rfl
theorem cen_2_1_1 : f_center [.tup [.int 2, .int 1], .int 1] [] = .ok (.tup [], []) := by kernel_rfl
theorem cut_2_1_2 (S : Sto) : f_l_cut [.tup [.int 2, .int 1], .int 2] S = .ok (.lst [], S) := by kernel_rfl
theorem rib_2_1_2 (S : Sto) : f_ribbons [.tup [.int 2, .int 1], .int 2] S = .ok (.tup [], S) := by kernel_rfl
theorem cen_2_1_2 : f_center [.tup [.int 2, .int 1], .int 2] [] = .ok (.tup [.int 2, .int 1], []) := by kernel_rfl
theorem cut_2_1_3 (S : Sto) : f_l_cut [.tup [.int 2, .int 1], .int 3] S = .ok (.lst [.tup [.tup [], .int 1]], S) := by kernel_rfl
theorem rib_2_1_3 (S : Sto) : f_ribbons [.tup [.int 2, .int 1], .int 3] S = .ok (.tup [.tup [.tup [], .int 1]], S) := by kernel_rfl
theorem cen_2_1_3 : f_center [.tup [.int 2, .int 1], .int 3] [] = .ok (.tup [], []) := by kernel_rfl
theorem cut_2_1_4 (S : Sto) : f_l_cut [.tup [.int 2, .int 1], .int 4] S = .ok (.lst [], S) := by kernel_rfl
theorem rib_2_1_4 (S : Sto) : f_ribbons [.tup [.int 2, .int 1], .int 4] S = .ok (.tup [], S) := by kernel_rfl
theorem cen_2_1_4 : f_center [.tup [.int 2, .int 1], .int 4] [] = .ok (.tup [.int 2, .int 1], []) := by kernel_rfl
theorem cut_2_1_5 (S : Sto) : f_l_cut [.tup [.int 2, .int 1], .int 5] S = .ok (.lst [], S) := by kernel_rfl
theorem rib_2_1_5 (S : Sto) : f_ribbons [.tup [.int 2, .int 1], .int 5] S = .ok (.tup [], S) := by kernel_rfl
theorem cen_2_1_5 : f_center [.tup [.int 2, .int 1], .int 5] [] = .ok (.tup [.int 2, .int 1], []) := by kernel_rfl
theorem cut_1_1_1_1 (S : Sto) : f_l_cut [.tup [.int 1, .int 1, .int 1], .int 1] S = .ok (.lst [.tup [.tup [.int 1, .int 1], .int 0]], S) := by kernel_rfl
theorem rib_1_1_1_1 (S : Sto) : f_ribbons [.tup [.int 1, .int 1, .int 1], .int 1] S = .ok (.tup [.tup [.tup [.int 1, .int 1], .int 0]], S) := by kernel_rfl
theorem cen_1_1_1_1 : f_center [.tup [.int 1, .int 1, .int 1], .int 1] [] = .ok (.tup [], []) := by kernel_rfl
theorem cut_1_1_1_2 (S : Sto) : f_l_cut [.tup [.int 1, .int 1, .int 1], .int 2] S = .ok (.lst [.tup [.tup [.int 1], .int 1]], S) := by kernel_rfl
theorem rib_1_1_1_2 (S : Sto) : f_ribbons [.tup [.int 1, .int 1, .int 1], .int 2] S = .ok (.tup [.tup [.tup [.int 1], .int 1]], S) := by kernel_rfl
theorem cen_1_1_1_2 : f_center [.tup [.int 1, .int 1, .int 1], .int 2] [] = .ok (.tup [.int 1], []) := by kernel_rfl
theorem cut_1_1_1_3 (S : Sto) : f_l_cut [.tup [.int 1, .int 1, .int 1], .int 3] S = .ok (.lst [.tup [.tup [], .int 2]], S) := by kernel_rfl
theorem rib_1_1_1_3 (S : Sto) : f_ribbons [.tup [.int 1, .int 1, .int 1], .int 3] S = .ok (.tup [.tup [.tup [], .int 2]], S) := by kernel_rfl
theorem cen_1_1_1_3 : f_center [.tup [.int 1, .int 1, .int 1], .int 3] [] = .ok (.tup [], []) := by kernel_rfl
theorem cut_1_1_1_4 (S : Sto) : f_l_cut [.tup [.int 1, .int 1, .int 1], .int 4] S = .ok (.lst [], S) := by kernel_rfl
theorem rib_1_1_1_4 (S : Sto) : f_ribbons [.tup [.int 1, .int 1, .int 1], .int 4] S = .ok (.tup [], S) := by kernel_rfl
theorem cen_1_1_1_4 : f_center [.tup [.int 1, .int 1, .int 1], .int 4] [] = .ok (.tup [.int 1, .int 1, .int 1], []) := by kernel_rfl
theorem cut_1_1_1_5 (S : Sto) : f_l_cut [.tup [.int 1, .int 1, .int 1], .int 5] S = .ok (.lst [], S) := by kernel_rfl
theorem rib_1_1_1_5 (S : Sto) : f_ribbons [.tup [.int 1, .int 1, .int 1], .int 5] S = .ok (.tup [], S) := by kernel_rfl
theorem cen_1_1_1_5 : f_center [.tup [.int 1, .int 1, .int 1], .int 5] [] = .ok (.tup [.int 1, .int 1, .int 1], []) := by kernel_rfl
theorem cut_4_1 (S : Sto) : f_l_cut [.tup [.int 4], .int 1] S = .ok (.lst [.tup [.tup [.int 3], .int 0]], S) := by kernel_rfl
theorem rib_4_1 (S : Sto) : f_ribbons [.tup [.int 4], .int 1] S = .ok (.tup [.tup [.tup [.int 3], .int 0]], S) := by kernel_rfl
theorem cen_4_1 : f_center [.tup [.int 4], .int 1] [] = .ok (.tup [], []) := by kernel_rfl
theorem cut_4_2 (S : Sto) : f_l_cut [.tup [.int 4], .int 2] S = .ok (.lst [.tup [.tup [.int 2], .int 0]], S) := by kernel_rfl
theorem rib_4_2 (S : Sto) : f_ribbons [.tup [.int 4], .int 2] S = .ok (.tup [.tup [.tup [.int 2], .int 0]], S) := by kernel_rfl
theorem cen_4_2 : f_center [.tup [.int 4], .int 2] [] = .ok (.tup [], []) := by kernel_rfl
theorem cut_4_3 (S : Sto) : f_l_cut [.tup [.int 4], .int 3] S = .ok (.lst [.tup [.tup [.int 1], .int 0]], S) := by kernel_rfl
theorem rib_4_3 (S : Sto) : f_ribbons [.tup [.int 4], .int 3] S = .ok (.tup [.tup [.tup [.int 1], .int 0]], S) := by kernel_rfl
theorem cen_4_3 : f_center [.tup [.int 4], .int 3] [] = .ok (.tup [.int 1], []) := by kernel_rfl
theorem cut_4_4 (S : Sto) : f_l_cut [.tup [.int 4], .int 4] S = .ok (.lst [.tup [.tup [], .int 0]], S) := by kernel_rfl
theorem rib_4_4 (S : Sto) : f_ribbons [.tup [.int 4], .int 4] S = .ok (.tup [.tup [.tup [], .int 0]], S) := by kernel_rfl
theorem cen_4_4 : f_center [.tup [.int 4], .int 4] [] = .ok (.tup [], []) := by kernel_rfl
theorem cut_4_5 (S : Sto) : f_l_cut [.tup [.int 4], .int 5] S = .ok (.lst [], S) := by kernel_rfl
theorem rib_4_5 (S : Sto) : f_ribbons [.tup [.int 4], .int 5] S = .ok (.tup [], S) := by kernel_rfl
theorem cen_4_5 : f_center [.tup [.int 4], .int 5] [] = .ok (.tup [.int 4], []) := by kernel_rfl
theorem cut_3_1_1 (S : Sto) : f_l_cut [.tup [.int 3, .int 1], .int 1] S = .ok (.lst [.tup [.tup [.int 2, .int 1], .int 0], .tup [.tup [.int 3], .int 0]], S) := by kernel_rfl
theorem rib_3_1_1 (S : Sto) : f_ribbons [.tup [.int 3, .int 1], .int 1] S = .ok (.tup [.tup [.tup [.int 2, .int 1], .int 0], .tup [.tup [.int 3], .int 0]], S) := by kernel_rfl
theorem cen_3_1_1 : f_center [.tup [.int 3, .int 1], .int 1] [] = .ok (.tup [], []) := by kernel_rfl
theorem cut_3_1_2 (S : Sto) : f_l_cut [.tup [.int 3, .int 1], .int 2] S = .ok (.lst [.tup [.tup [.int 1, .int 1], .int 0]], S) := by kernel_rfl
theorem rib_3_1_2 (S : Sto) : f_ribbons [.tup [.int 3, .int 1], .int 2] S = .ok (.tup [.tup [.tup [.int 1, .int 1], .int 0]], S) := by kernel_rfl
theorem cen_3_1_2 : f_center [.tup [.int 3, .int 1], .int 2] [] = .ok (.tup [], []) := by kernel_rfl
theorem cut_3_1_3 (S : Sto) : f_l_cut [.tup [.int 3, .int 1], .int 3] S = .ok (.lst [], S) := by kernel_rfl
theorem rib_3_1_3 (S : Sto) : f_ribbons [.tup [.int 3, .int 1], .int 3] S = .ok (.tup [], S) := by kernel_rfl
theorem cen_3_1_3 : f_center [.tup [.int 3, .int 1], .int 3] [] = .ok (.tup [.int 3, .int 1], []) := by kernel_rfl
theorem cut_3_1_4 (S : Sto) : f_l_cut [.tup [.int 3, .int 1], .int 4] S = .ok (.lst [.tup [.tup [], .int 1]], S) := by kernel_rfl
theorem rib_3_1_4 (S : Sto) : f_ribbons [.tup [.int 3, .int 1], .int 4] S = .ok (.tup [.tup [.tup [], .int 1]], S) := by kernel_rfl
theorem cen_3_1_4 : f_center [.tup [.int 3, .int 1], .int 4] [] = .ok (.tup [], []) := by kernel_rfl
theorem cut_3_1_5 (S : Sto) : f_l_cut [.tup [.int 3, .int 1], .int 5] S = .ok (.lst [], S) := by kernel_rfl
theorem rib_3_1_5 (S : Sto) : f_ribbons [.tup [.int 3, .int 1], .int 5] S = .ok (.tup [], S) := by kernel_rfl
theorem cen_3_1_5 : f_center [.tup [.int 3, .int 1], .int 5] [] = .ok (.tup [.int 3, .int 1], []) := by kernel_rfl
theorem cut_2_2_1 (S : Sto) : f_l_cut [.tup [.int 2, .int 2], .int 1] S = .ok (.lst [.tup [.tup [.int 2, .int 1], .int 0]], S) := by kernel_rfl
theorem rib_2_2_1 (S : Sto) : f_ribbons [.tup [.int 2, .int 2], .int 1] S = .ok (.tup [.tup [.tup [.int 2, .int 1], .int 0]], S) := by kernel_rfl
theorem cen_2_2_1 : f_center [.tup [.int 2, .int 2], .int 1] [] = .ok (.tup [], []) := by kernel_rfl
theorem cut_2_2_2 (S : Sto) : f_l_cut [.tup [.int 2, .int 2], .int 2] S = .ok (.lst [.tup [.tup [.int 1, .int 1], .int 1], .tup [.tup [.int 2], .int 0]], S) := by kernel_rfl
theorem rib_2_2_2 (S : Sto) : f_ribbons [.tup [.int 2, .int 2], .int 2] S = .ok (.tup [.tup [.tup [.int 1, .int 1], .int 1], .tup [.tup [.int 2], .int 0]], S) := by kernel_rfl
theorem cen_2_2_2 : f_center [.tup [.int 2, .int 2], .int 2] [] = .ok (.tup [], []) := by kernel_rfl
theorem cut_2_2_3 (S : Sto) : f_l_cut [.tup [.int 2, .int 2], .int 3] S = .ok (.lst [.tup [.tup [.int 1], .int 1]], S) := by kernel_rfl
theorem rib_2_2_3 (S : Sto) : f_ribbons [.tup [.int 2, .int 2], .int 3] S = .ok (.tup [.tup [.tup [.int 1], .int 1]], S) := by kernel_rfl
theorem cen_2_2_3 : f_center [.tup [.int 2, .int 2], .int 3] [] = .ok (.tup [.int 1], []) := by kernel_rfl
theorem cut_2_2_4 (S : Sto) : f_l_cut [.tup [.int 2, .int 2], .int 4] S = .ok (.lst [], S) := by kernel_rfl
theorem rib_2_2_4 (S : Sto) : f_ribbons [.tup [.int 2, .int 2], .int 4] S = .ok (.tup [], S) := by kernel_rfl
theorem cen_2_2_4 : f_center [.tup [.int 2, .int 2], .int 4] [] = .ok (.tup [.int 2, .int 2], []) := by kernel_rfl
theorem cut_2_2_5 (S : Sto) : f_l_cut [.tup [.int 2, .int 2], .int 5] S = .ok (.lst [], S) := by kernel_rfl
theorem rib_2_2_5 (S : Sto) : f_ribbons [.tup [.int 2, .int 2], .int 5] S = .ok (.tup [], S) := by kernel_rfl
theorem cen_2_2_5 : f_center [.tup [.int 2, .int 2], .int 5] [] = .ok (.tup [.int 2, .int 2], []) := by kernel_rfl
theorem cut_2_1_1_1 (S : Sto) : f_l_cut [.tup [.int 2, .int 1, .int 1], .int 1] S = .ok (.lst [.tup [.tup [.int 1, .int 1, .int 1], .int 0], .tup [.tup [.int 2, .int 1], .int 0]], S) := by kernel_rfl
theorem rib_2_1_1_1 (S : Sto) : f_ribbons [.tup [.int 2, .int 1, .int 1], .int 1] S = .ok (.tup [.tup [.tup [.int 1, .int 1, .int 1], .int 0], .tup [.tup [.int 2, .int 1], .int 0]], S) := by kernel_rfl
theorem cen_2_1_1_1 : f_center [.tup [.int 2, .int 1, .int 1], .int 1] [] = .ok (.tup [], []) := by kernel_rfl
theorem cut_2_1_1_2 (S : Sto) : f_l_cut [.tup [.int 2, .int 1, .int 1], .int 2] S = .ok (.lst [.tup [.tup [.int 2], .int 1]], S) := by kernel_rfl
theorem rib_2_1_1_2 (S : Sto) : f_ribbons [.tup [.int 2, .int 1, .int 1], .int 2] S = .ok (.tup [.tup [.tup [.int 2], .int 1]], S) := by kernel_rfl
theorem cen_2_1_1_2 : f_center [.tup [.int 2, .int 1, .int 1], .int 2] [] = .ok (.tup [], []) := by kernel_rfl
theorem cut_2_1_1_3 (S : Sto) : f_l_cut [.tup [.int 2, .int 1, .int 1], .int 3] S = .ok (.lst [], S) := by kernel_rfl
theorem rib_2_1_1_3 (S : Sto) : f_ribbons [.tup [.int 2, .int 1, .int 1], .int 3] S = .ok (.tup [], S) := by kernel_rfl
theorem cen_2_1_1_3 : f_center [.tup [.int 2, .int 1, .int 1], .int 3] [] = .ok (.tup [.int 2, .int 1, .int 1], []) := by kernel_rfl
theorem cut_2_1_1_4 (S : Sto) : f_l_cut [.tup [.int 2, .int 1, .int 1], .int 4] S = .ok (.lst [.tup [.tup [], .int 2]], S) := by kernel_rfl
theorem rib_2_1_1_4 (S : Sto) : f_ribbons [.tup [.int 2, .int 1, .int 1], .int 4] S = .ok (.tup [.tup [.tup [], .int 2]], S) := by kernel_rfl
theorem cen_2_1_1_4 : f_center [.tup [.int 2, .int 1, .int 1], .int 4] [] = .ok (.tup [], []) := by kernel_rfl
theorem cut_2_1_1_5 (S : Sto) : f_l_cut [.tup [.int 2, .int 1, .int 1], .int 5] S = .ok (.lst [], S) := by kernel_rfl
theorem rib_2_1_1_5 (S : Sto) : f_ribbons [.tup [.int 2, .int 1, .int 1], .int 5] S = .ok (.tup [], S) := by kernel_rfl
theorem cen_2_1_1_5 : f_center [.tup [.int 2, .int 1, .int 1], .int 5] [] = .ok (.tup [.int 2, .int 1, .int 1], []) := by kernel_rfl
theorem cut_1_1_1_1_1 (S : Sto) : f_l_cut [.tup [.int 1, .int 1, .int 1, .int 1], .int 1] S = .ok (.lst [.tup [.tup [.int 1, .int 1, .int 1], .int 0]], S) := by kernel_rfl
theorem rib_1_1_1_1_1 (S : Sto) : f_ribbons [.tup [.int 1, .int 1, .int 1, .int 1], .int 1] S = .ok (.tup [.tup [.tup [.int 1, .int 1, .int 1], .int 0]], S) := by kernel_rfl
theorem cen_1_1_1_1_1 : f_center [.tup [.int 1, .int 1, .int 1, .int 1], .int 1] [] = .ok (.tup [], []) := by kernel_rfl
theorem cut_1_1_1_1_2 (S : Sto) : f_l_cut [.tup [.int 1, .int 1, .int 1, .int 1], .int 2] S = .ok (.lst [.tup [.tup [.int 1, .int 1], .int 1]], S) := by kernel_rfl
theorem rib_1_1_1_1_2 (S : Sto) : f_ribbons [.tup [.int 1, .int 1, .int 1, .int 1], .int 2] S = .ok (.tup [.tup [.tup [.int 1, .int 1], .int 1]], S) := by kernel_rfl
theorem cen_1_1_1_1_2 : f_center [.tup [.int 1, .int 1, .int 1, .int 1], .int 2] [] = .ok (.tup [], []) := by kernel_rfl
theorem cut_1_1_1_1_3 (S : Sto) : f_l_cut [.tup [.int 1, .int 1, .int 1, .int 1], .int 3] S = .ok (.lst [.tup [.tup [.int 1], .int 2]], S) := by kernel_rfl
theorem rib_1_1_1_1_3 (S : Sto) : f_ribbons [.tup [.int 1, .int 1, .int 1, .int 1], .int 3] S = .ok (.tup [.tup [.tup [.int 1], .int 2]], S) := by kernel_rfl
theorem cen_1_1_1_1_3 : f_center [.tup [.int 1, .int 1, .int 1, .int 1], .int 3] [] = .ok (.tup [.int 1], []) := by kernel_rfl
theorem cut_1_1_1_1_4 (S : Sto) : f_l_cut [.tup [.int 1, .int 1, .int 1, .int 1], .int 4] S = .ok (.lst [.tup [.tup [], .int 3]], S) := by kernel_rfl
theorem rib_1_1_1_1_4 (S : Sto) : f_ribbons [.tup [.int 1, .int 1, .int 1, .int 1], .int 4] S = .ok (.tup [.tup [.tup [], .int 3]], S) := by kernel_rfl
theorem cen_1_1_1_1_4 : f_center [.tup [.int 1, .int 1, .int 1, .int 1], .int 4] [] = .ok (.tup [], []) := by kernel_rfl
theorem cut_1_1_1_1_5 (S : Sto) : f_l_cut [.tup [.int 1, .int 1, .int 1, .int 1], .int 5] S = .ok (.lst [], S) := by kernel_rfl
theorem rib_1_1_1_1_5 (S : Sto) : f_ribbons [.tup [.int 1, .int 1, .int 1, .int 1], .int 5] S = .ok (.tup [], S) := by kernel_rfl
theorem cen_1_1_1_1_5 : f_center [.tup [.int 1, .int 1, .int 1, .int 1], .int 5] [] = .ok (.tup [.int 1, .int 1, .int 1, .int 1], []) := by kernel_rfl
theorem cut_5_1 (S : Sto) : f_l_cut [.tup [.int 5], .int 1] S = .ok (.lst [.tup [.tup [.int 4], .int 0]], S) := by kernel_rfl
theorem rib_5_1 (S : Sto) : f_ribbons [.tup [.int 5], .int 1] S = .ok (.tup [.tup [.tup [.int 4], .int 0]], S) := by kernel_rfl
theorem cen_5_1 : f_center [.tup [.int 5], .int 1] [] = .ok (.tup [], []) := by kernel_rfl
theorem cut_5_2 (S : Sto) : f_l_cut [.tup [.int 5], .int 2] S = .ok (.lst [.tup [.tup [.int 3], .int 0]], S) := by kernel_rfl
theorem rib_5_2 (S : Sto) : f_ribbons [.tup [.int 5], .int 2] S = .ok (.tup [.tup [.tup [.int 3], .int 0]], S) := by kernel_rfl
theorem cen_5_2 : f_center [.tup [.int 5], .int 2] [] = .ok (.tup [.int 1], []) := by kernel_rfl
theorem cut_5_3 (S : Sto) : f_l_cut [.tup [.int 5], .int 3] S = .ok (.lst [.tup [.tup [.int 2], .int 0]], S) := by kernel_rfl
theorem rib_5_3 (S : Sto) : f_ribbons [.tup [.int 5], .int 3] S = .ok (.tup [.tup [.tup [.int 2], .int 0]], S) := by kernel_rfl
theorem cen_5_3 : f_center [.tup [.int 5], .int 3] [] = .ok (.tup [.int 2], []) := by kernel_rfl
theorem cut_5_4 (S : Sto) : f_l_cut [.tup [.int 5], .int 4] S = .ok (.lst [.tup [.tup [.int 1], .int 0]], S) := by kernel_rfl
theorem rib_5_4 (S : Sto) : f_ribbons [.tup [.int 5], .int 4] S = .ok (.tup [.tup [.tup [.int 1], .int 0]], S) := by kernel_rfl
theorem cen_5_4 : f_center [.tup [.int 5], .int 4] [] = .ok (.tup [.int 1], []) := by kernel_rfl
theorem cut_5_5 (S : Sto) : f_l_cut [.tup [.int 5], .int 5] S = .ok (.lst [.tup [.tup [], .int 0]], S) := by kernel_rfl
theorem rib_5_5 (S : Sto) : f_ribbons [.tup [.int 5], .int 5] S = .ok (.tup [.tup [.tup [], .int 0]], S) := by kernel_rfl
theorem cen_5_5 : f_center [.tup [.int 5], .int 5] [] = .ok (.tup [], []) := by kernel_rfl
theorem cut_4_1_1 (S : Sto) : f_l_cut [.tup [.int 4, .int 1], .int 1] S = .ok (.lst [.tup [.tup [.int 3, .int 1], .int 0], .tup [.tup [.int 4], .int 0]], S) := by kernel_rfl
theorem rib_4_1_1 (S : Sto) : f_ribbons [.tup [.int 4, .int 1], .int 1] S = .ok (.tup [.tup [.tup [.int 3, .int 1], .int 0], .tup [.tup [.int 4], .int 0]], S) := by kernel_rfl
theorem cen_4_1_1 : f_center [.tup [.int 4, .int 1], .int 1] [] = .ok (.tup [], []) := by kernel_rfl
theorem cut_4_1_2 (S : Sto) : f_l_cut [.tup [.int 4, .int 1], .int 2] S = .ok (.lst [.tup [.tup [.int 2, .int 1], .int 0]], S) := by kernel_rfl
theorem rib_4_1_2 (S : Sto) : f_ribbons [.tup [.int 4, .int 1], .int 2] S = .ok (.tup [.tup [.tup [.int 2, .int 1], .int 0]], S) := by kernel_rfl
theorem cen_4_1_2 : f_center [.tup [.int 4, .int 1], .int 2] [] = .ok (.tup [.int 2, .int 1], []) := by kernel_rfl
theorem cut_4_1_3 (S : Sto) : f_l_cut [.tup [.int 4, .int 1], .int 3] S = .ok (.lst [.tup [.tup [.int 1, .int 1], .int 0]], S) := by kernel_rfl
theorem rib_4_1_3 (S : Sto) : f_ribbons [.tup [.int 4, .int 1], .int 3] S = .ok (.tup [.tup [.tup [.int 1, .int 1], .int 0]], S) := by kernel_rfl
theorem cen_4_1_3 : f_center [.tup [.int 4, .int 1], .int 3] [] = .ok (.tup [.int 1, .int 1], []) := by kernel_rfl
theorem cut_4_1_4 (S : Sto) : f_l_cut [.tup [.int 4, .int 1], .int 4] S = .ok (.lst [], S) := by kernel_rfl
theorem rib_4_1_4 (S : Sto) : f_ribbons [.tup [.int 4, .int 1], .int 4] S = .ok (.tup [], S) := by kernel_rfl
theorem cen_4_1_4 : f_center [.tup [.int 4, .int 1], .int 4] [] = .ok (.tup [.int 4, .int 1], []) := by kernel_rfl
theorem cut_4_1_5 (S : Sto) : f_l_cut [.tup [.int 4, .int 1], .int 5] S = .ok (.lst [.tup [.tup [], .int 1]], S) := by kernel_rfl
theorem rib_4_1_5 (S : Sto) : f_ribbons [.tup [.int 4, .int 1], .int 5] S = .ok (.tup [.tup [.tup [], .int 1]], S) := by kernel_rfl
theorem cen_4_1_5 : f_center [.tup [.int 4, .int 1], .int 5] [] = .ok (.tup [], []) := by kernel_rfl
theorem cut_3_2_1 (S : Sto) : f_l_cut [.tup [.int 3, .int 2], .int 1] S = .ok (.lst [.tup [.tup [.int 2, .int 2], .int 0], .tup [.tup [.int 3, .int 1], .int 0]], S) := by kernel_rfl
theorem rib_3_2_1 (S : Sto) : f_ribbons [.tup [.int 3, .int 2], .int 1] S = .ok (.tup [.tup [.tup [.int 2, .int 2], .int 0], .tup [.tup [.int 3, .int 1], .int 0]], S) := by kernel_rfl
theorem cen_3_2_1 : f_center [.tup [.int 3, .int 2], .int 1] [] = .ok (.tup [], []) := by kernel_rfl
theorem cut_3_2_2 (S : Sto) : f_l_cut [.tup [.int 3, .int 2], .int 2] S = .ok (.lst [.tup [.tup [.int 3], .int 0]], S) := by kernel_rfl
theorem rib_3_2_2 (S : Sto) : f_ribbons [.tup [.int 3, .int 2], .int 2] S = .ok (.tup [.tup [.tup [.int 3], .int 0]], S) := by kernel_rfl
theorem cen_3_2_2 : f_center [.tup [.int 3, .int 2], .int 2] [] = .ok (.tup [.int 1], []) := by kernel_rfl
theorem cut_3_2_3 (S : Sto) : f_l_cut [.tup [.int 3, .int 2], .int 3] S = .ok (.lst [.tup [.tup [.int 1, .int 1], .int 1]], S) := by kernel_rfl
theorem rib_3_2_3 (S : Sto) : f_ribbons [.tup [.int 3, .int 2], .int 3] S = .ok (.tup [.tup [.tup [.int 1, .int 1], .int 1]], S) := by kernel_rfl
theorem cen_3_2_3 : f_center [.tup [.int 3, .int 2], .int 3] [] = .ok (.tup [.int 1, .int 1], []) := by kernel_rfl
theorem cut_3_2_4 (S : Sto) : f_l_cut [.tup [.int 3, .int 2], .int 4] S = .ok (.lst [.tup [.tup [.int 1], .int 1]], S) := by kernel_rfl
theorem rib_3_2_4 (S : Sto) : f_ribbons [.tup [.int 3, .int 2], .int 4] S = .ok (.tup [.tup [.tup [.int 1], .int 1]], S) := by kernel_rfl
theorem cen_3_2_4 : f_center [.tup [.int 3, .int 2], .int 4] [] = .ok (.tup [.int 1], []) := by kernel_rfl
theorem cut_3_2_5 (S : Sto) : f_l_cut [.tup [.int 3, .int 2], .int 5] S = .ok (.lst [], S) := by kernel_rfl
theorem rib_3_2_5 (S : Sto) : f_ribbons [.tup [.int 3, .int 2], .int 5] S = .ok (.tup [], S) := by kernel_rfl
theorem cen_3_2_5 : f_center [.tup [.int 3, .int 2], .int 5] [] = .ok (.tup [.int 3, .int 2], []) := by kernel_rfl
theorem cut_3_1_1_1 (S : Sto) : f_l_cut [.tup [.int 3, .int 1, .int 1], .int 1] S = .ok (.lst [.tup [.tup [.int 2, .int 1, .int 1], .int 0], .tup [.tup [.int 3, .int 1], .int 0]], S) := by kernel_rfl
theorem rib_3_1_1_1 (S : Sto) : f_ribbons [.tup [.int 3, .int 1, .int 1], .int 1] S = .ok (.tup [.tup [.tup [.int 2, .int 1, .int 1], .int 0], .tup [.tup [.int 3, .int 1], .int 0]], S) := by kernel_rfl
theorem cen_3_1_1_1 : f_center [.tup [.int 3, .int 1, .int 1], .int 1] [] = .ok (.tup [], []) := by kernel_rfl
theorem cut_3_1_1_2 (S : Sto) : f_l_cut [.tup [.int 3, .int 1, .int 1], .int 2] S = .ok (.lst [.tup [.tup [.int 1, .int 1, .int 1], .int 0], .tup [.tup [.int 3], .int 1]], S) := by kernel_rfl
theorem rib_3_1_1_2 (S : Sto) : f_ribbons [.tup [.int 3, .int 1, .int 1], .int 2] S = .ok (.tup [.tup [.tup [.int 1, .int 1, .int 1], .int 0], .tup [.tup [.int 3], .int 1]], S) := by kernel_rfl
theorem cen_3_1_1_2 : f_center [.tup [.int 3, .int 1, .int 1], .int 2] [] = .ok (.tup [.int 1], []) := by kernel_rfl
theorem cut_3_1_1_3 (S : Sto) : f_l_cut [.tup [.int 3, .int 1, .int 1], .int 3] S = .ok (.lst [], S) := by kernel_rfl
theorem rib_3_1_1_3 (S : Sto) : f_ribbons [.tup [.int 3, .int 1, .int 1], .int 3] S = .ok (.tup [], S) := by kernel_rfl
theorem cen_3_1_1_3 : f_center [.tup [.int 3, .int 1, .int 1], .int 3] [] = .ok (.tup [.int 3, .int 1, .int 1], []) := by kernel_rfl
theorem cut_3_1_1_4 (S : Sto) : f_l_cut [.tup [.int 3, .int 1, .int 1], .int 4] S = .ok (.lst [], S) := by kernel_rfl
theorem rib_3_1_1_4 (S : Sto) : f_ribbons [.tup [.int 3, .int 1, .int 1], .int 4] S = .ok (.tup [], S) := by kernel_rfl
theorem cen_3_1_1_4 : f_center [.tup [.int 3, .int 1, .int 1], .int 4] [] = .ok (.tup [.int 3, .int 1, .int 1], []) := by kernel_rfl
theorem cut_3_1_1_5 (S : Sto) : f_l_cut [.tup [.int 3, .int 1, .int 1], .int 5] S = .ok (.lst [.tup [.tup [], .int 2]], S) := by kernel_rfl
theorem rib_3_1_1_5 (S : Sto) : f_ribbons [.tup [.int 3, .int 1, .int 1], .int 5] S = .ok (.tup [.tup [.tup [], .int 2]], S) := by kernel_rfl
theorem cen_3_1_1_5 : f_center [.tup [.int 3, .int 1, .int 1], .int 5] [] = .ok (.tup [], []) := by kernel_rfl
theorem cut_2_2_1_1 (S : Sto) : f_l_cut [.tup [.int 2, .int 2, .int 1], .int 1] S = .ok (.lst [.tup [.tup [.int 2, .int 1, .int 1], .int 0], .tup [.tup [.int 2, .int 2], .int 0]], S) := by kernel_rfl
theorem rib_2_2_1_1 (S : Sto) : f_ribbons [.tup [.int 2, .int 2, .int 1], .int 1] S = .ok (.tup [.tup [.tup [.int 2, .int 1, .int 1], .int 0], .tup [.tup [.int 2, .int 2], .int 0]], S) := by kernel_rfl
theorem cen_2_2_1_1 : f_center [.tup [.int 2, .int 2, .int 1], .int 1] [] = .ok (.tup [], []) := by kernel_rfl
theorem cut_2_2_1_2 (S : Sto) : f_l_cut [.tup [.int 2, .int 2, .int 1], .int 2] S = .ok (.lst [.tup [.tup [.int 1, .int 1, .int 1], .int 1]], S) := by kernel_rfl
theorem rib_2_2_1_2 (S : Sto) : f_ribbons [.tup [.int 2, .int 2, .int 1], .int 2] S = .ok (.tup [.tup [.tup [.int 1, .int 1, .int 1], .int 1]], S) := by kernel_rfl
theorem cen_2_2_1_2 : f_center [.tup [.int 2, .int 2, .int 1], .int 2] [] = .ok (.tup [.int 1], []) := by kernel_rfl
theorem cut_2_2_1_3 (S : Sto) : f_l_cut [.tup [.int 2, .int 2, .int 1], .int 3] S = .ok (.lst [.tup [.tup [.int 2], .int 1]], S) := by kernel_rfl
theorem rib_2_2_1_3 (S : Sto) : f_ribbons [.tup [.int 2, .int 2, .int 1], .int 3] S = .ok (.tup [.tup [.tup [.int 2], .int 1]], S) := by kernel_rfl
theorem cen_2_2_1_3 : f_center [.tup [.int 2, .int 2, .int 1], .int 3] [] = .ok (.tup [.int 2], []) := by kernel_rfl
theorem cut_2_2_1_4 (S : Sto) : f_l_cut [.tup [.int 2, .int 2, .int 1], .int 4] S = .ok (.lst [.tup [.tup [.int 1], .int 2]], S) := by kernel_rfl
theorem rib_2_2_1_4 (S : Sto) : f_ribbons [.tup [.int 2, .int 2, .int 1], .int 4] S = .ok (.tup [.tup [.tup [.int 1], .int 2]], S) := by kernel_rfl
theorem cen_2_2_1_4 : f_center [.tup [.int 2, .int 2, .int 1], .int 4] [] = .ok (.tup [.int 1], []) := by kernel_rfl
theorem cut_2_2_1_5 (S : Sto) : f_l_cut [.tup [.int 2, .int 2, .int 1], .int 5] S = .ok (.lst [], S) := by kernel_rfl
theorem rib_2_2_1_5 (S : Sto) : f_ribbons [.tup [.int 2, .int 2, .int 1], .int 5] S = .ok (.tup [], S) := by kernel_rfl
theorem cen_2_2_1_5 : f_center [.tup [.int 2, .int 2, .int 1], .int 5] [] = .ok (.tup [.int 2, .int 2, .int 1], []) := by kernel_rfl
theorem cut_2_1_1_1_1 (S : Sto) : f_l_cut [.tup [.int 2, .int 1, .int 1, .int 1], .int 1] S = .ok (.lst [.tup [.tup [.int 1, .int 1, .int 1, .int 1], .int 0], .tup [.tup [.int 2, .int 1, .int 1], .int 0]], S) := by kernel_rfl
theorem rib_2_1_1_1_1 (S : Sto) : f_ribbons [.tup [.int 2, .int 1, .int 1, .int 1], .int 1] S = .ok (.tup [.tup [.tup [.int 1, .int 1, .int 1, .int 1], .int 0], .tup [.tup [.int 2, .int 1, .int 1], .int 0]], S) := by kernel_rfl
theorem cen_2_1_1_1_1 : f_center [.tup [.int 2, .int 1, .int 1, .int 1], .int 1] [] = .ok (.tup [], []) := by kernel_rfl
theorem cut_2_1_1_1_2 (S : Sto) : f_l_cut [.tup [.int 2, .int 1, .int 1, .int 1], .int 2] S = .ok (.lst [.tup [.tup [.int 2, .int 1], .int 1]], S) := by kernel_rfl
theorem rib_2_1_1_1_2 (S : Sto) : f_ribbons [.tup [.int 2, .int 1, .int 1, .int 1], .int 2] S = .ok (.tup [.tup [.tup [.int 2, .int 1], .int 1]], S) := by kernel_rfl
theorem cen_2_1_1_1_2 : f_center [.tup [.int 2, .int 1, .int 1, .int 1], .int 2] [] = .ok (.tup [.int 2, .int 1], []) := by kernel_rfl
theorem cut_2_1_1_1_3 (S : Sto) : f_l_cut [.tup [.int 2, .int 1, .int 1, .int 1], .int 3] S = .ok (.lst [.tup [.tup [.int 2], .int 2]], S) := by kernel_rfl
theorem rib_2_1_1_1_3 (S : Sto) : f_ribbons [.tup [.int 2, .int 1, .int 1, .int 1], .int 3] S = .ok (.tup [.tup [.tup [.int 2], .int 2]], S) := by kernel_rfl
theorem cen_2_1_1_1_3 : f_center [.tup [.int 2, .int 1, .int 1, .int 1], .int 3] [] = .ok (.tup [.int 2], []) := by kernel_rfl
theorem cut_2_1_1_1_4 (S : Sto) : f_l_cut [.tup [.int 2, .int 1, .int 1, .int 1], .int 4] S = .ok (.lst [], S) := by kernel_rfl
theorem rib_2_1_1_1_4 (S : Sto) : f_ribbons [.tup [.int 2, .int 1, .int 1, .int 1], .int 4] S = .ok (.tup [], S) := by kernel_rfl
theorem cen_2_1_1_1_4 : f_center [.tup [.int 2, .int 1, .int 1, .int 1], .int 4] [] = .ok (.tup [.int 2, .int 1, .int 1, .int 1], []) := by kernel_rfl
theorem cut_2_1_1_1_5 (S : Sto) : f_l_cut [.tup [.int 2, .int 1, .int 1, .int 1], .int 5] S = .ok (.lst [.tup [.tup [], .int 3]], S) := by kernel_rfl
theorem rib_2_1_1_1_5 (S : Sto) : f_ribbons [.tup [.int 2, .int 1, .int 1, .int 1], .int 5] S = .ok (.tup [.tup [.tup [], .int 3]], S) := by kernel_rfl
theorem cen_2_1_1_1_5 : f_center [.tup [.int 2, .int 1, .int 1, .int 1], .int 5] [] = .ok (.tup [], []) := by kernel_rfl
theorem cut_1_1_1_1_1_1 (S : Sto) : f_l_cut [.tup [.int 1, .int 1, .int 1, .int 1, .int 1], .int 1] S = .ok (.lst [.tup [.tup [.int 1, .int 1, .int 1, .int 1], .int 0]], S) := by kernel_rfl
theorem rib_1_1_1_1_1_1 (S : Sto) : f_ribbons [.tup [.int 1, .int 1, .int 1, .int 1, .int 1], .int 1] S = .ok (.tup [.tup [.tup [.int 1, .int 1, .int 1, .int 1], .int 0]], S) := by kernel_rfl
theorem cen_1_1_1_1_1_1 : f_center [.tup [.int 1, .int 1, .int 1, .int 1, .int 1], .int 1] [] = .ok (.tup [], []) := by kernel_rfl
theorem cut_1_1_1_1_1_2 (S : Sto) : f_l_cut [.tup [.int 1, .int 1, .int 1, .int 1, .int 1], .int 2] S = .ok (.lst [.tup [.tup [.int 1, .int 1, .int 1], .int 1]], S) := by kernel_rfl
theorem rib_1_1_1_1_1_2 (S : Sto) : f_ribbons [.tup [.int 1, .int 1, .int 1, .int 1, .int 1], .int 2] S = .ok (.tup [.tup [.tup [.int 1, .int 1, .int 1], .int 1]], S) := by kernel_rfl
theorem cen_1_1_1_1_1_2 : f_center [.tup [.int 1, .int 1, .int 1, .int 1, .int 1], .int 2] [] = .ok (.tup [.int 1], []) := by kernel_rfl
theorem cut_1_1_1_1_1_3 (S : Sto) : f_l_cut [.tup [.int 1, .int 1, .int 1, .int 1, .int 1], .int 3] S = .ok (.lst [.tup [.tup [.int 1, .int 1], .int 2]], S) := by kernel_rfl
theorem rib_1_1_1_1_1_3 (S : Sto) : f_ribbons [.tup [.int 1, .int 1, .int 1, .int 1, .int 1], .int 3] S = .ok (.tup [.tup [.tup [.int 1, .int 1], .int 2]], S) := by kernel_rfl
theorem cen_1_1_1_1_1_3 : f_center [.tup [.int 1, .int 1, .int 1, .int 1, .int 1], .int 3] [] = .ok (.tup [.int 1, .int 1], []) := by kernel_rfl
theorem cut_1_1_1_1_1_4 (S : Sto) : f_l_cut [.tup [.int 1, .int 1, .int 1, .int 1, .int 1], .int 4] S = .ok (.lst [.tup [.tup [.int 1], .int 3]], S) := by kernel_rfl
theorem rib_1_1_1_1_1_4 (S : Sto) : f_ribbons [.tup [.int 1, .int 1, .int 1, .int 1, .int 1], .int 4] S = .ok (.tup [.tup [.tup [.int 1], .int 3]], S) := by kernel_rfl
theorem cen_1_1_1_1_1_4 : f_center [.tup [.int 1, .int 1, .int 1, .int 1, .int 1], .int 4] [] = .ok (.tup [.int 1], []) := by kernel_rfl
theorem cut_1_1_1_1_1_5 (S : Sto) : f_l_cut [.tup [.int 1, .int 1, .int 1, .int 1, .int 1], .int 5] S = .ok (.lst [.tup [.tup [], .int 4]], S) := by kernel_rfl
theorem rib_1_1_1_1_1_5 (S : Sto) : f_ribbons [.tup [.int 1, .int 1, .int 1, .int 1, .int 1], .int 5] S = .ok (.tup [.tup [.tup [], .int 4]], S) := by kernel_rfl
theorem cen_1_1_1_1_1_5 : f_center [.tup [.int 1, .int 1, .int 1, .int 1, .int 1], .int 5] [] = .ok (.tup [], []) := by kernel_rfl
end K60
set_option Elab.async false
set_option maxRecDepth 100000
set_option maxHeartbeats 0
namespace K60
open PySem PySem.Spec PyProof.Rows L2 J
theorem cut_6_1 (S : Sto) : f_l_cut [.tup [.int 6], .int 1] S = .ok (.lst [.tup [.tup [.int 5], .int 0]], S) := by kernel_rfl
theorem rib_6_1 (S : Sto) : f_ribbons [.tup [.int 6], .int 1] S = .ok (.tup [.tup [.tup [.int 5], .int 0]], S) := by kernel_rfl
theorem cen_6_1 : f_center [.tup [.int 6], .int 1] [] = .ok (.tup [], []) := by kernel_rfl
theorem cut_6_2 (S : Sto) : f_l_cut [.tup [.int 6], .int 2] S = .ok (.lst [.tup [.tup [.int 4], .int 0]], S) := by kernel_rfl
theorem rib_6_2 (S : Sto) : f_ribbons [.tup [.int 6], .int 2] S = .ok (.tup [.tup [.tup [.int 4], .int 0]], S) := by kernel_rfl
theorem cen_6_2 : f_center [.tup [.int 6], .int 2] [] = .ok (.tup [], []) := by kernel_rfl
theorem cut_6_3 (S : Sto) : f_l_cut [.tup [.int 6], .int 3] S = .ok (.lst [.tup [.tup [.int 3], .int 0]], S) := by kernel_rfl
theorem rib_6_3 (S : Sto) : f_ribbons [.tup [.int 6], .int 3] S = .ok (.tup [.tup [.tup [.int 3], .int 0]], S) := by kernel_rfl
theorem cen_6_3 : f_center [.tup [.int 6], .int 3] [] = .ok (.tup [], []) := by kernel_rfl
theorem cut_6_4 (S : Sto) : f_l_cut [.tup [.int 6], .int 4] S = .ok (.lst [.tup [.tup [.int 2], .int 0]], S) := by kernel_rfl
theorem rib_6_4 (S : Sto) : f_ribbons [.tup [.int 6], .int 4] S = .ok (.tup [.tup [.tup [.int 2], .int 0]], S) := by kernel_rfl
theorem cen_6_4 : f_center [.tup [.int 6], .int 4] [] = .ok (.tup [.int 2], []) := by kernel_rfl
theorem cut_6_5 (S : Sto) : f_l_cut [.tup [.int 6], .int 5] S = .ok (.lst [.tup [.tup [.int 1], .int 0]], S) := by kernel_rfl
theorem rib_6_5 (S : Sto) : f_ribbons [.tup [.int 6], .int 5] S = .ok (.tup [.tup [.tup [.int 1], .int 0]], S) := by kernel_rfl
theorem cen_6_5 : f_center [.tup [.int 6], .int 5] [] = .ok (.tup [.int 1], []) := by kernel_rfl
theorem cut_5_1_1 (S : Sto) : f_l_cut [.tup [.int 5, .int 1], .int 1] S = .ok (.lst [.tup [.tup [.int 4, .int 1], .int 0], .tup [.tup [.int 5], .int 0]], S) := by kernel_rfl
theorem rib_5_1_1 (S : Sto) : f_ribbons [.tup [.int 5, .int 1], .int 1] S = .ok (.tup [.tup [.tup [.int 4, .int 1], .int 0], .tup [.tup [.int 5], .int 0]], S) := by kernel_rfl
theorem cen_5_1_1 : f_center [.tup [.int 5, .int 1], .int 1] [] = .ok (.tup [], []) := by kernel_rfl
theorem cut_5_1_2 (S : Sto) : f_l_cut [.tup [.int 5, .int 1], .int 2] S = .ok (.lst [.tup [.tup [.int 3, .int 1], .int 0]], S) := by kernel_rfl
theorem rib_5_1_2 (S : Sto) : f_ribbons [.tup [.int 5, .int 1], .int 2] S = .ok (.tup [.tup [.tup [.int 3, .int 1], .int 0]], S) := by kernel_rfl
theorem cen_5_1_2 : f_center [.tup [.int 5, .int 1], .int 2] [] = .ok (.tup [], []) := by kernel_rfl
theorem cut_5_1_3 (S : Sto) : f_l_cut [.tup [.int 5, .int 1], .int 3] S = .ok (.lst [.tup [.tup [.int 2, .int 1], .int 0]], S) := by kernel_rfl
theorem rib_5_1_3 (S : Sto) : f_ribbons [.tup [.int 5, .int 1], .int 3] S = .ok (.tup [.tup [.tup [.int 2, .int 1], .int 0]], S) := by kernel_rfl
theorem cen_5_1_3 : f_center [.tup [.int 5, .int 1], .int 3] [] = .ok (.tup [], []) := by kernel_rfl
theorem cut_5_1_4 (S : Sto) : f_l_cut [.tup [.int 5, .int 1], .int 4] S = .ok (.lst [.tup [.tup [.int 1, .int 1], .int 0]], S) := by kernel_rfl
theorem rib_5_1_4 (S : Sto) : f_ribbons [.tup [.int 5, .int 1], .int 4] S = .ok (.tup [.tup [.tup [.int 1, .int 1], .int 0]], S) := by kernel_rfl
theorem cen_5_1_4 : f_center [.tup [.int 5, .int 1], .int 4] [] = .ok (.tup [.int 1, .int 1], []) := by kernel_rfl
theorem cut_5_1_5 (S : Sto) : f_l_cut [.tup [.int 5, .int 1], .int 5] S = .ok (.lst [], S) := by kernel_rfl
theorem rib_5_1_5 (S : Sto) : f_ribbons [.tup [.int 5, .int 1], .int 5] S = .ok (.tup [], S) := by kernel_rfl
theorem cen_5_1_5 : f_center [.tup [.int 5, .int 1], .int 5] [] = .ok (.tup [.int 5, .int 1], []) := by kernel_rfl
theorem cut_4_2_1 (S : Sto) : f_l_cut [.tup [.int 4, .int 2], .int 1] S = .ok (.lst [.tup [.tup [.int 3, .int 2], .int 0], .tup [.tup [.int 4, .int 1], .int 0]], S) := by kernel_rfl
theorem rib_4_2_1 (S : Sto) : f_ribbons [.tup [.int 4, .int 2], .int 1] S = .ok (.tup [.tup [.tup [.int 3, .int 2], .int 0], .tup [.tup [.int 4, .int 1], .int 0]], S) := by kernel_rfl
theorem cen_4_2_1 : f_center [.tup [.int 4, .int 2], .int 1] [] = .ok (.tup [], []) := by kernel_rfl
theorem cut_4_2_2 (S : Sto) : f_l_cut [.tup [.int 4, .int 2], .int 2] S = .ok (.lst [.tup [.tup [.int 2, .int 2], .int 0], .tup [.tup [.int 4], .int 0]], S) := by kernel_rfl
theorem rib_4_2_2 (S : Sto) : f_ribbons [.tup [.int 4, .int 2], .int 2] S = .ok (.tup [.tup [.tup [.int 2, .int 2], .int 0], .tup [.tup [.int 4], .int 0]], S) := by kernel_rfl
theorem cen_4_2_2 : f_center [.tup [.int 4, .int 2], .int 2] [] = .ok (.tup [], []) := by kernel_rfl
theorem cut_4_2_3 (S : Sto) : f_l_cut [.tup [.int 4, .int 2], .int 3] S = .ok (.lst [], S) := by kernel_rfl
theorem rib_4_2_3 (S : Sto) : f_ribbons [.tup [.int 4, .int 2], .int 3] S = .ok (.tup [], S) := by kernel_rfl
theorem cen_4_2_3 : f_center [.tup [.int 4, .int 2], .int 3] [] = .ok (.tup [.int 4, .int 2], []) := by kernel_rfl
theorem cut_4_2_4 (S : Sto) : f_l_cut [.tup [.int 4, .int 2], .int 4] S = .ok (.lst [.tup [.tup [.int 1, .int 1], .int 1]], S) := by kernel_rfl
theorem rib_4_2_4 (S : Sto) : f_ribbons [.tup [.int 4, .int 2], .int 4] S = .ok (.tup [.tup [.tup [.int 1, .int 1], .int 1]], S) := by kernel_rfl
theorem cen_4_2_4 : f_center [.tup [.int 4, .int 2], .int 4] [] = .ok (.tup [.int 1, .int 1], []) := by kernel_rfl
theorem cut_4_2_5 (S : Sto) : f_l_cut [.tup [.int 4, .int 2], .int 5] S = .ok (.lst [.tup [.tup [.int 1], .int 1]], S) := by kernel_rfl
theorem rib_4_2_5 (S : Sto) : f_ribbons [.tup [.int 4, .int 2], .int 5] S = .ok (.tup [.tup [.tup [.int 1], .int 1]], S) := by kernel_rfl
theorem cen_4_2_5 : f_center [.tup [.int 4, .int 2], .int 5] [] = .ok (.tup [.int 1], []) := by kernel_rfl
theorem cut_4_1_1_1 (S : Sto) : f_l_cut [.tup [.int 4, .int 1, .int 1], .int 1] S = .ok (.lst [.tup [.tup [.int 3, .int 1, .int 1], .int 0], .tup [.tup [.int 4, .int 1], .int 0]], S) := by kernel_rfl
theorem rib_4_1_1_1 (S : Sto) : f_ribbons [.tup [.int 4, .int 1, .int 1], .int 1] S = .ok (.tup [.tup [.tup [.int 3, .int 1, .int 1], .int 0], .tup [.tup [.int 4, .int 1], .int 0]], S) := by kernel_rfl
theorem cen_4_1_1_1 : f_center [.tup [.int 4, .int 1, .int 1], .int 1] [] = .ok (.tup [], []) := by kernel_rfl
theorem cut_4_1_1_2 (S : Sto) : f_l_cut [.tup [.int 4, .int 1, .int 1], .int 2] S = .ok (.lst [.tup [.tup [.int 2, .int 1, .int 1], .int 0], .tup [.tup [.int 4], .int 1]], S) := by kernel_rfl
theorem rib_4_1_1_2 (S : Sto) : f_ribbons [.tup [.int 4, .int 1, .int 1], .int 2] S = .ok (.tup [.tup [.tup [.int 2, .int 1, .int 1], .int 0], .tup [.tup [.int 4], .int 1]], S) := by kernel_rfl
theorem cen_4_1_1_2 : f_center [.tup [.int 4, .int 1, .int 1], .int 2] [] = .ok (.tup [], []) := by kernel_rfl
theorem cut_4_1_1_3 (S : Sto) : f_l_cut [.tup [.int 4, .int 1, .int 1], .int 3] S = .ok (.lst [.tup [.tup [.int 1, .int 1, .int 1], .int 0]], S) := by kernel_rfl
theorem rib_4_1_1_3 (S : Sto) : f_ribbons [.tup [.int 4, .int 1, .int 1], .int 3] S = .ok (.tup [.tup [.tup [.int 1, .int 1, .int 1], .int 0]], S) := by kernel_rfl
theorem cen_4_1_1_3 : f_center [.tup [.int 4, .int 1, .int 1], .int 3] [] = .ok (.tup [], []) := by kernel_rfl
theorem cut_4_1_1_4 (S : Sto) : f_l_cut [.tup [.int 4, .int 1, .int 1], .int 4] S = .ok (.lst [], S) := by kernel_rfl
theorem rib_4_1_1_4 (S : Sto) : f_ribbons [.tup [.int 4, .int 1, .int 1], .int 4] S = .ok (.tup [], S) := by kernel_rfl
theorem cen_4_1_1_4 : f_center [.tup [.int 4, .int 1, .int 1], .int 4] [] = .ok (.tup [.int 4, .int 1, .int 1], []) := by kernel_rfl
theorem cut_4_1_1_5 (S : Sto) : f_l_cut [.tup [.int 4, .int 1, .int 1], .int 5] S = .ok (.lst [], S) := by kernel_rfl
theorem rib_4_1_1_5 (S : Sto) : f_ribbons [.tup [.int 4, .int 1, .int 1], .int 5] S = .ok (.tup [], S) := by kernel_rfl
theorem cen_4_1_1_5 : f_center [.tup [.int 4, .int 1, .int 1], .int 5] [] = .ok (.tup [.int 4, .int 1, .int 1], []) := by kernel_rfl
theorem cut_3_3_1 (S : Sto) : f_l_cut [.tup [.int 3, .int 3], .int 1] S = .ok (.lst [.tup [.tup [.int 3, .int 2], .int 0]], S) := by kernel_rfl
theorem rib_3_3_1 (S : Sto) : f_ribbons [.tup [.int 3, .int 3], .int 1] S = .ok (.tup [.tup [.tup [.int 3, .int 2], .int 0]], S) := by kernel_rfl
theorem cen_3_3_1 : f_center [.tup [.int 3, .int 3], .int 1] [] = .ok (.tup [], []) := by kernel_rfl
theorem cut_3_3_2 (S : Sto) : f_l_cut [.tup [.int 3, .int 3], .int 2] S = .ok (.lst [.tup [.tup [.int 2, .int 2], .int 1], .tup [.tup [.int 3, .int 1], .int 0]], S) := by kernel_rfl
theorem rib_3_3_2 (S : Sto) : f_ribbons [.tup [.int 3, .int 3], .int 2] S = .ok (.tup [.tup [.tup [.int 2, .int 2], .int 1], .tup [.tup [.int 3, .int 1], .int 0]], S) := by kernel_rfl
theorem cen_3_3_2 : f_center [.tup [.int 3, .int 3], .int 2] [] = .ok (.tup [], []) := by kernel_rfl
theorem cut_3_3_3 (S : Sto) : f_l_cut [.tup [.int 3, .int 3], .int 3] S = .ok (.lst [.tup [.tup [.int 2, .int 1], .int 1], .tup [.tup [.int 3], .int 0]], S) := by kernel_rfl
theorem rib_3_3_3 (S : Sto) : f_ribbons [.tup [.int 3, .int 3], .int 3] S = .ok (.tup [.tup [.tup [.int 2, .int 1], .int 1], .tup [.tup [.int 3], .int 0]], S) := by kernel_rfl
theorem cen_3_3_3 : f_center [.tup [.int 3, .int 3], .int 3] [] = .ok (.tup [], []) := by kernel_rfl
theorem cut_3_3_4 (S : Sto) : f_l_cut [.tup [.int 3, .int 3], .int 4] S = .ok (.lst [.tup [.tup [.int 2], .int 1]], S) := by kernel_rfl
theorem rib_3_3_4 (S : Sto) : f_ribbons [.tup [.int 3, .int 3], .int 4] S = .ok (.tup [.tup [.tup [.int 2], .int 1]], S) := by kernel_rfl
theorem cen_3_3_4 : f_center [.tup [.int 3, .int 3], .int 4] [] = .ok (.tup [.int 2], []) := by kernel_rfl
theorem cut_3_3_5 (S : Sto) : f_l_cut [.tup [.int 3, .int 3], .int 5] S = .ok (.lst [], S) := by kernel_rfl
theorem rib_3_3_5 (S : Sto) : f_ribbons [.tup [.int 3, .int 3], .int 5] S = .ok (.tup [], S) := by kernel_rfl
theorem cen_3_3_5 : f_center [.tup [.int 3, .int 3], .int 5] [] = .ok (.tup [.int 3, .int 3], []) := by kernel_rfl
theorem cut_3_2_1_1 (S : Sto) : f_l_cut [.tup [.int 3, .int 2, .int 1], .int 1] S = .ok (.lst [.tup [.tup [.int 2, .int 2, .int 1], .int 0], .tup [.tup [.int 3, .int 1, .int 1], .int 0], .tup [.tup [.int 3, .int 2], .int 0]], S) := by kernel_rfl
theorem rib_3_2_1_1 (S : Sto) : f_ribbons [.tup [.int 3, .int 2, .int 1], .int 1] S = .ok (.tup [.tup [.tup [.int 2, .int 2, .int 1], .int 0], .tup [.tup [.int 3, .int 1, .int 1], .int 0], .tup [.tup [.int 3, .int 2], .int 0]], S) := by kernel_rfl
theorem cen_3_2_1_1 : f_center [.tup [.int 3, .int 2, .int 1], .int 1] [] = .ok (.tup [], []) := by kernel_rfl
theorem cut_3_2_1_2 (S : Sto) : f_l_cut [.tup [.int 3, .int 2, .int 1], .int 2] S = .ok (.lst [], S) := by kernel_rfl
theorem rib_3_2_1_2 (S : Sto) : f_ribbons [.tup [.int 3, .int 2, .int 1], .int 2] S = .ok (.tup [], S) := by kernel_rfl
theorem cen_3_2_1_2 : f_center [.tup [.int 3, .int 2, .int 1], .int 2] [] = .ok (.tup [.int 3, .int 2, .int 1], []) := by kernel_rfl
theorem cut_3_2_1_3 (S : Sto) : f_l_cut [.tup [.int 3, .int 2, .int 1], .int 3] S = .ok (.lst [.tup [.tup [.int 1, .int 1, .int 1], .int 1], .tup [.tup [.int 3], .int 1]], S) := by kernel_rfl
theorem rib_3_2_1_3 (S : Sto) : f_ribbons [.tup [.int 3, .int 2, .int 1], .int 3] S = .ok (.tup [.tup [.tup [.int 1, .int 1, .int 1], .int 1], .tup [.tup [.int 3], .int 1]], S) := by kernel_rfl
theorem cen_3_2_1_3 : f_center [.tup [.int 3, .int 2, .int 1], .int 3] [] = .ok (.tup [], []) := by kernel_rfl
theorem cut_3_2_1_4 (S : Sto) : f_l_cut [.tup [.int 3, .int 2, .int 1], .int 4] S = .ok (.lst [], S) := by kernel_rfl
theorem rib_3_2_1_4 (S : Sto) : f_ribbons [.tup [.int 3, .int 2, .int 1], .int 4] S = .ok (.tup [], S) := by kernel_rfl
theorem cen_3_2_1_4 : f_center [.tup [.int 3, .int 2, .int 1], .int 4] [] = .ok (.tup [.int 3, .int 2, .int 1], []) := by kernel_rfl
theorem cut_3_2_1_5 (S : Sto) : f_l_cut [.tup [.int 3, .int 2, .int 1], .int 5] S = .ok (.lst [.tup [.tup [.int 1], .int 2]], S) := by kernel_rfl
theorem rib_3_2_1_5 (S : Sto) : f_ribbons [.tup [.int 3, .int 2, .int 1], .int 5] S = .ok (.tup [.tup [.tup [.int 1], .int 2]], S) := by kernel_rfl
theorem cen_3_2_1_5 : f_center [.tup [.int 3, .int 2, .int 1], .int 5] [] = .ok (.tup [.int 1], []) := by kernel_rfl
theorem cut_3_1_1_1_1 (S : Sto) : f_l_cut [.tup [.int 3, .int 1, .int 1, .int 1], .int 1] S = .ok (.lst [.tup [.tup [.int 2, .int 1, .int 1, .int 1], .int 0], .tup [.tup [.int 3, .int 1, .int 1], .int 0]], S) := by kernel_rfl
theorem rib_3_1_1_1_1 (S : Sto) : f_ribbons [.tup [.int 3, .int 1, .int 1, .int 1], .int 1] S = .ok (.tup [.tup [.tup [.int 2, .int 1, .int 1, .int 1], .int 0], .tup [.tup [.int 3, .int 1, .int 1], .int 0]], S) := by kernel_rfl
theorem cen_3_1_1_1_1 : f_center [.tup [.int 3, .int 1, .int 1, .int 1], .int 1] [] = .ok (.tup [], []) := by kernel_rfl
theorem cut_3_1_1_1_2 (S : Sto) : f_l_cut [.tup [.int 3, .int 1, .int 1, .int 1], .int 2] S = .ok (.lst [.tup [.tup [.int 1, .int 1, .int 1, .int 1], .int 0], .tup [.tup [.int 3, .int 1], .int 1]], S) := by kernel_rfl
theorem rib_3_1_1_1_2 (S : Sto) : f_ribbons [.tup [.int 3, .int 1, .int 1, .int 1], .int 2] S = .ok (.tup [.tup [.tup [.int 1, .int 1, .int 1, .int 1], .int 0], .tup [.tup [.int 3, .int 1], .int 1]], S) := by kernel_rfl
theorem cen_3_1_1_1_2 : f_center [.tup [.int 3, .int 1, .int 1, .int 1], .int 2] [] = .ok (.tup [], []) := by kernel_rfl
theorem cut_3_1_1_1_3 (S : Sto) : f_l_cut [.tup [.int 3, .int 1, .int 1, .int 1], .int 3] S = .ok (.lst [.tup [.tup [.int 3], .int 2]], S) := by kernel_rfl
theorem rib_3_1_1_1_3 (S : Sto) : f_ribbons [.tup [.int 3, .int 1, .int 1, .int 1], .int 3] S = .ok (.tup [.tup [.tup [.int 3], .int 2]], S) := by kernel_rfl
theorem cen_3_1_1_1_3 : f_center [.tup [.int 3, .int 1, .int 1, .int 1], .int 3] [] = .ok (.tup [], []) := by kernel_rfl
theorem cut_3_1_1_1_4 (S : Sto) : f_l_cut [.tup [.int 3, .int 1, .int 1, .int 1], .int 4] S = .ok (.lst [], S) := by kernel_rfl
theorem rib_3_1_1_1_4 (S : Sto) : f_ribbons [.tup [.int 3, .int 1, .int 1, .int 1], .int 4] S = .ok (.tup [], S) := by kernel_rfl
theorem cen_3_1_1_1_4 : f_center [.tup [.int 3, .int 1, .int 1, .int 1], .int 4] [] = .ok (.tup [.int 3, .int 1, .int 1, .int 1], []) := by kernel_rfl
theorem cut_3_1_1_1_5 (S : Sto) : f_l_cut [.tup [.int 3, .int 1, .int 1, .int 1], .int 5] S = .ok (.lst [], S) := by kernel_rfl
theorem rib_3_1_1_1_5 (S : Sto) : f_ribbons [.tup [.int 3, .int 1, .int 1, .int 1], .int 5] S = .ok (.tup [], S) := by kernel_rfl
theorem cen_3_1_1_1_5 : f_center [.tup [.int 3, .int 1, .int 1, .int 1], .int 5] [] = .ok (.tup [.int 3, .int 1, .int 1, .int 1], []) := by kernel_rfl
theorem cut_2_2_2_1 (S : Sto) : f_l_cut [.tup [.int 2, .int 2, .int 2], .int 1] S = .ok (.lst [.tup [.tup [.int 2, .int 2, .int 1], .int 0]], S) := by kernel_rfl
theorem rib_2_2_2_1 (S : Sto) : f_ribbons [.tup [.int 2, .int 2, .int 2], .int 1] S = .ok (.tup [.tup [.tup [.int 2, .int 2, .int 1], .int 0]], S) := by kernel_rfl
theorem cen_2_2_2_1 : f_center [.tup [.int 2, .int 2, .int 2], .int 1] [] = .ok (.tup [], []) := by kernel_rfl
theorem cut_2_2_2_2 (S : Sto) : f_l_cut [.tup [.int 2, .int 2, .int 2], .int 2] S = .ok (.lst [.tup [.tup [.int 2, .int 1, .int 1], .int 1], .tup [.tup [.int 2, .int 2], .int 0]], S) := by kernel_rfl
theorem rib_2_2_2_2 (S : Sto) : f_ribbons [.tup [.int 2, .int 2, .int 2], .int 2] S = .ok (.tup [.tup [.tup [.int 2, .int 1, .int 1], .int 1], .tup [.tup [.int 2, .int 2], .int 0]], S) := by kernel_rfl
theorem cen_2_2_2_2 : f_center [.tup [.int 2, .int 2, .int 2], .int 2] [] = .ok (.tup [], []) := by kernel_rfl
theorem cut_2_2_2_3 (S : Sto) : f_l_cut [.tup [.int 2, .int 2, .int 2], .int 3] S = .ok (.lst [.tup [.tup [.int 1, .int 1, .int 1], .int 2], .tup [.tup [.int 2, .int 1], .int 1]], S) := by kernel_rfl
theorem rib_2_2_2_3 (S : Sto) : f_ribbons [.tup [.int 2, .int 2, .int 2], .int 3] S = .ok (.tup [.tup [.tup [.int 1, .int 1, .int 1], .int 2], .tup [.tup [.int 2, .int 1], .int 1]], S) := by kernel_rfl
theorem cen_2_2_2_3 : f_center [.tup [.int 2, .int 2, .int 2], .int 3] [] = .ok (.tup [], []) := by kernel_rfl
theorem cut_2_2_2_4 (S : Sto) : f_l_cut [.tup [.int 2, .int 2, .int 2], .int 4] S = .ok (.lst [.tup [.tup [.int 1, .int 1], .int 2]], S) := by kernel_rfl
theorem rib_2_2_2_4 (S : Sto) : f_ribbons [.tup [.int 2, .int 2, .int 2], .int 4] S = .ok (.tup [.tup [.tup [.int 1, .int 1], .int 2]], S) := by kernel_rfl
theorem cen_2_2_2_4 : f_center [.tup [.int 2, .int 2, .int 2], .int 4] [] = .ok (.tup [.int 1, .int 1], []) := by kernel_rfl
theorem cut_2_2_2_5 (S : Sto) : f_l_cut [.tup [.int 2, .int 2, .int 2], .int 5] S = .ok (.lst [], S) := by kernel_rfl
theorem rib_2_2_2_5 (S : Sto) : f_ribbons [.tup [.int 2, .int 2, .int 2], .int 5] S = .ok (.tup [], S) := by kernel_rfl
theorem cen_2_2_2_5 : f_center [.tup [.int 2, .int 2, .int 2], .int 5] [] = .ok (.tup [.int 2, .int 2, .int 2], []) := by kernel_rfl
theorem cut_2_2_1_1_1 (S : Sto) : f_l_cut [.tup [.int 2, .int 2, .int 1, .int 1], .int 1] S = .ok (.lst [.tup [.tup [.int 2, .int 1, .int 1, .int 1], .int 0], .tup [.tup [.int 2, .int 2, .int 1], .int 0]], S) := by kernel_rfl
theorem rib_2_2_1_1_1 (S : Sto) : f_ribbons [.tup [.int 2, .int 2, .int 1, .int 1], .int 1] S = .ok (.tup [.tup [.tup [.int 2, .int 1, .int 1, .int 1], .int 0], .tup [.tup [.int 2, .int 2, .int 1], .int 0]], S) := by kernel_rfl
theorem cen_2_2_1_1_1 : f_center [.tup [.int 2, .int 2, .int 1, .int 1], .int 1] [] = .ok (.tup [], []) := by kernel_rfl
theorem cut_2_2_1_1_2 (S : Sto) : f_l_cut [.tup [.int 2, .int 2, .int 1, .int 1], .int 2] S = .ok (.lst [.tup [.tup [.int 1, .int 1, .int 1, .int 1], .int 1], .tup [.tup [.int 2, .int 2], .int 1]], S) := by kernel_rfl
theorem rib_2_2_1_1_2 (S : Sto) : f_ribbons [.tup [.int 2, .int 2, .int 1, .int 1], .int 2] S = .ok (.tup [.tup [.tup [.int 1, .int 1, .int 1, .int 1], .int 1], .tup [.tup [.int 2, .int 2], .int 1]], S) := by kernel_rfl
theorem cen_2_2_1_1_2 : f_center [.tup [.int 2, .int 2, .int 1, .int 1], .int 2] [] = .ok (.tup [], []) := by kernel_rfl
theorem cut_2_2_1_1_3 (S : Sto) : f_l_cut [.tup [.int 2, .int 2, .int 1, .int 1], .int 3] S = .ok (.lst [], S) := by kernel_rfl
theorem rib_2_2_1_1_3 (S : Sto) : f_ribbons [.tup [.int 2, .int 2, .int 1, .int 1], .int 3] S = .ok (.tup [], S) := by kernel_rfl
theorem cen_2_2_1_1_3 : f_center [.tup [.int 2, .int 2, .int 1, .int 1], .int 3] [] = .ok (.tup [.int 2, .int 2, .int 1, .int 1], []) := by kernel_rfl
theorem cut_2_2_1_1_4 (S : Sto) : f_l_cut [.tup [.int 2, .int 2, .int 1, .int 1], .int 4] S = .ok (.lst [.tup [.tup [.int 2], .int 2]], S) := by kernel_rfl
theorem rib_2_2_1_1_4 (S : Sto) : f_ribbons [.tup [.int 2, .int 2, .int 1, .int 1], .int 4] S = .ok (.tup [.tup [.tup [.int 2], .int 2]], S) := by kernel_rfl
theorem cen_2_2_1_1_4 : f_center [.tup [.int 2, .int 2, .int 1, .int 1], .int 4] [] = .ok (.tup [.int 2], []) := by kernel_rfl
theorem cut_2_2_1_1_5 (S : Sto) : f_l_cut [.tup [.int 2, .int 2, .int 1, .int 1], .int 5] S = .ok (.lst [.tup [.tup [.int 1], .int 3]], S) := by kernel_rfl
theorem rib_2_2_1_1_5 (S : Sto) : f_ribbons [.tup [.int 2, .int 2, .int 1, .int 1], .int 5] S = .ok (.tup [.tup [.tup [.int 1], .int 3]], S) := by kernel_rfl
theorem cen_2_2_1_1_5 : f_center [.tup [.int 2, .int 2, .int 1, .int 1], .int 5] [] = .ok (.tup [.int 1], []) := by kernel_rfl
theorem cut_2_1_1_1_1_1 (S : Sto) : f_l_cut [.tup [.int 2, .int 1, .int 1, .int 1, .int 1], .int 1] S = .ok (.lst [.tup [.tup [.int 1, .int 1, .int 1, .int 1, .int 1], .int 0], .tup [.tup [.int 2, .int 1, .int 1, .int 1], .int 0]], S) := by kernel_rfl
theorem rib_2_1_1_1_1_1 (S : Sto) : f_ribbons [.tup [.int 2, .int 1, .int 1, .int 1, .int 1], .int 1] S = .ok (.tup [.tup [.tup [.int 1, .int 1, .int 1, .int 1, .int 1], .int 0], .tup [.tup [.int 2, .int 1, .int 1, .int 1], .int 0]], S) := by kernel_rfl
theorem cen_2_1_1_1_1_1 : f_center [.tup [.int 2, .int 1, .int 1, .int 1, .int 1], .int 1] [] = .ok (.tup [], []) := by kernel_rfl
theorem cut_2_1_1_1_1_2 (S : Sto) : f_l_cut [.tup [.int 2, .int 1, .int 1, .int 1, .int 1], .int 2] S = .ok (.lst [.tup [.tup [.int 2, .int 1, .int 1], .int 1]], S) := by kernel_rfl
theorem rib_2_1_1_1_1_2 (S : Sto) : f_ribbons [.tup [.int 2, .int 1, .int 1, .int 1, .int 1], .int 2] S = .ok (.tup [.tup [.tup [.int 2, .int 1, .int 1], .int 1]], S) := by kernel_rfl
theorem cen_2_1_1_1_1_2 : f_center [.tup [.int 2, .int 1, .int 1, .int 1, .int 1], .int 2] [] = .ok (.tup [], []) := by kernel_rfl
theorem cut_2_1_1_1_1_3 (S : Sto) : f_l_cut [.tup [.int 2, .int 1, .int 1, .int 1, .int 1], .int 3] S = .ok (.lst [.tup [.tup [.int 2, .int 1], .int 2]], S) := by kernel_rfl
theorem rib_2_1_1_1_1_3 (S : Sto) : f_ribbons [.tup [.int 2, .int 1, .int 1, .int 1, .int 1], .int 3] S = .ok (.tup [.tup [.tup [.int 2, .int 1], .int 2]], S) := by kernel_rfl
theorem cen_2_1_1_1_1_3 : f_center [.tup [.int 2, .int 1, .int 1, .int 1, .int 1], .int 3] [] = .ok (.tup [], []) := by kernel_rfl
theorem cut_2_1_1_1_1_4 (S : Sto) : f_l_cut [.tup [.int 2, .int 1, .int 1, .int 1, .int 1], .int 4] S = .ok (.lst [.tup [.tup [.int 2], .int 3]], S) := by kernel_rfl
theorem rib_2_1_1_1_1_4 (S : Sto) : f_ribbons [.tup [.int 2, .int 1, .int 1, .int 1, .int 1], .int 4] S = .ok (.tup [.tup [.tup [.int 2], .int 3]], S) := by kernel_rfl
theorem cen_2_1_1_1_1_4 : f_center [.tup [.int 2, .int 1, .int 1, .int 1, .int 1], .int 4] [] = .ok (.tup [.int 2], []) := by kernel_rfl
theorem cut_2_1_1_1_1_5 (S : Sto) : f_l_cut [.tup [.int 2, .int 1, .int 1, .int 1, .int 1], .int 5] S = .ok (.lst [], S) := by kernel_rfl
theorem rib_2_1_1_1_1_5 (S : Sto) : f_ribbons [.tup [.int 2, .int 1, .int 1, .int 1, .int 1], .int 5] S = .ok (.tup [], S) := by kernel_rfl
theorem cen_2_1_1_1_1_5 : f_center [.tup [.int 2, .int 1, .int 1, .int 1, .int 1], .int 5] [] = .ok (.tup [.int 2, .int 1, .int 1, .int 1, .int 1], []) := by kernel_rfl
theorem cut_1_1_1_1_1_1_1 (S : Sto) : f_l_cut [.tup [.int 1, .int 1, .int 1, .int 1, .int 1, .int 1], .int 1] S = .ok (.lst [.tup [.tup [.int 1, .int 1, .int 1, .int 1, .int 1], .int 0]], S) := by kernel_rfl
theorem rib_1_1_1_1_1_1_1 (S : Sto) : f_ribbons [.tup [.int 1, .int 1, .int 1, .int 1, .int 1, .int 1], .int 1] S = .ok (.tup [.tup [.tup [.int 1, .int 1, .int 1, .int 1, .int 1], .int 0]], S) := by kernel_rfl
theorem cen_1_1_1_1_1_1_1 : f_center [.tup [.int 1, .int 1, .int 1, .int 1, .int 1, .int 1], .int 1] [] = .ok (.tup [], []) := by kernel_rfl
theorem cut_1_1_1_1_1_1_2 (S : Sto) : f_l_cut [.tup [.int 1, .int 1, .int 1, .int 1, .int 1, .int 1], .int 2] S = .ok (.lst [.tup [.tup [.int 1, .int 1, .int 1, .int 1], .int 1]], S) := by kernel_rfl
theorem rib_1_1_1_1_1_1_2 (S : Sto) : f_ribbons [.tup [.int 1, .int 1, .int 1, .int 1, .int 1, .int 1], .int 2] S = .ok (.tup [.tup [.tup [.int 1, .int 1, .int 1, .int 1], .int 1]], S) := by kernel_rfl
theorem cen_1_1_1_1_1_1_2 : f_center [.tup [.int 1, .int 1, .int 1, .int 1, .int 1, .int 1], .int 2] [] = .ok (.tup [], []) := by kernel_rfl
theorem cut_1_1_1_1_1_1_3 (S : Sto) : f_l_cut [.tup [.int 1, .int 1, .int 1, .int 1, .int 1, .int 1], .int 3] S = .ok (.lst [.tup [.tup [.int 1, .int 1, .int 1], .int 2]], S) := by kernel_rfl
theorem rib_1_1_1_1_1_1_3 (S : Sto) : f_ribbons [.tup [.int 1, .int 1, .int 1, .int 1, .int 1, .int 1], .int 3] S = .ok (.tup [.tup [.tup [.int 1, .int 1, .int 1], .int 2]], S) := by kernel_rfl
theorem cen_1_1_1_1_1_1_3 : f_center [.tup [.int 1, .int 1, .int 1, .int 1, .int 1, .int 1], .int 3] [] = .ok (.tup [], []) := by kernel_rfl
theorem cut_1_1_1_1_1_1_4 (S : Sto) : f_l_cut [.tup [.int 1, .int 1, .int 1, .int 1, .int 1, .int 1], .int 4] S = .ok (.lst [.tup [.tup [.int 1, .int 1], .int 3]], S) := by kernel_rfl
theorem rib_1_1_1_1_1_1_4 (S : Sto) : f_ribbons [.tup [.int 1, .int 1, .int 1, .int 1, .int 1, .int 1], .int 4] S = .ok (.tup [.tup [.tup [.int 1, .int 1], .int 3]], S) := by kernel_rfl
theorem cen_1_1_1_1_1_1_4 : f_center [.tup [.int 1, .int 1, .int 1, .int 1, .int 1, .int 1], .int 4] [] = .ok (.tup [.int 1, .int 1], []) := by kernel_rfl
theorem cut_1_1_1_1_1_1_5 (S : Sto) : f_l_cut [.tup [.int 1, .int 1, .int 1, .int 1, .int 1, .int 1], .int 5] S = .ok (.lst [.tup [.tup [.int 1], .int 4]], S) := by kernel_rfl
theorem rib_1_1_1_1_1_1_5 (S : Sto) : f_ribbons [.tup [.int 1, .int 1, .int 1, .int 1, .int 1, .int 1], .int 5] S = .ok (.tup [.tup [.tup [.int 1], .int 4]], S) := by kernel_rfl
theorem cen_1_1_1_1_1_1_5 : f_center [.tup [.int 1, .int 1, .int 1, .int 1, .int 1, .int 1], .int 5] [] = .ok (.tup [.int 1], []) := by kernel_rfl
end K60
set_option Elab.async false
set_option maxRecDepth 100000
set_option maxHeartbeats 0
namespace K60
open PySem PySem.Spec PyProof.Rows L2 J
theorem cut_7_1 (S : Sto) : f_l_cut [.tup [.int 7], .int 1] S = .ok (.lst [.tup [.tup [.int 6], .int 0]], S) := by kernel_rfl
theorem rib_7_1 (S : Sto) : f_ribbons [.tup [.int 7], .int 1] S = .ok (.tup [.tup [.tup [.int 6], .int 0]], S) := by kernel_rfl
theorem cen_7_1 : f_center [.tup [.int 7], .int 1] [] = .ok (.tup [], []) := by kernel_rfl
theorem cut_7_2 (S : Sto) : f_l_cut [.tup [.int 7], .int 2] S = .ok (.lst [.tup [.tup [.int 5], .int 0]], S) := by kernel_rfl
theorem rib_7_2 (S : Sto) : f_ribbons [.tup [.int 7], .int 2] S = .ok (.tup [.tup [.tup [.int 5], .int 0]], S) := by kernel_rfl
theorem cen_7_2 : f_center [.tup [.int 7], .int 2] [] = .ok (.tup [.int 1], []) := by kernel_rfl
theorem cut_7_3 (S : Sto) : f_l_cut [.tup [.int 7], .int 3] S = .ok (.lst [.tup [.tup [.int 4], .int 0]], S) := by kernel_rfl
theorem rib_7_3 (S : Sto) : f_ribbons [.tup [.int 7], .int 3] S = .ok (.tup [.tup [.tup [.int 4], .int 0]], S) := by kernel_rfl
theorem cen_7_3 : f_center [.tup [.int 7], .int 3] [] = .ok (.tup [.int 1], []) := by kernel_rfl
theorem cut_7_4 (S : Sto) : f_l_cut [.tup [.int 7], .int 4] S = .ok (.lst [.tup [.tup [.int 3], .int 0]], S) := by kernel_rfl
theorem rib_7_4 (S : Sto) : f_ribbons [.tup [.int 7], .int 4] S = .ok (.tup [.tup [.tup [.int 3], .int 0]], S) := by kernel_rfl
theorem cen_7_4 : f_center [.tup [.int 7], .int 4] [] = .ok (.tup [.int 3], []) := by kernel_rfl
theorem cut_7_5 (S : Sto) : f_l_cut [.tup [.int 7], .int 5] S = .ok (.lst [.tup [.tup [.int 2], .int 0]], S) := by kernel_rfl
theorem rib_7_5 (S : Sto) : f_ribbons [.tup [.int 7], .int 5] S = .ok (.tup [.tup [.tup [.int 2], .int 0]], S) := by kernel_rfl
theorem cen_7_5 : f_center [.tup [.int 7], .int 5] [] = .ok (.tup [.int 2], []) := by kernel_rfl
theorem cut_6_1_1 (S : Sto) : f_l_cut [.tup [.int 6, .int 1], .int 1] S = .ok (.lst [.tup [.tup [.int 5, .int 1], .int 0], .tup [.tup [.int 6], .int 0]], S) := by kernel_rfl
theorem rib_6_1_1 (S : Sto) : f_ribbons [.tup [.int 6, .int 1], .int 1] S = .ok (.tup [.tup [.tup [.int 5, .int 1], .int 0], .tup [.tup [.int 6], .int 0]], S) := by kernel_rfl
theorem cen_6_1_1 : f_center [.tup [.int 6, .int 1], .int 1] [] = .ok (.tup [], []) := by kernel_rfl
theorem cut_6_1_2 (S : Sto) : f_l_cut [.tup [.int 6, .int 1], .int 2] S = .ok (.lst [.tup [.tup [.int 4, .int 1], .int 0]], S) := by kernel_rfl
theorem rib_6_1_2 (S : Sto) : f_ribbons [.tup [.int 6, .int 1], .int 2] S = .ok (.tup [.tup [.tup [.int 4, .int 1], .int 0]], S) := by kernel_rfl
theorem cen_6_1_2 : f_center [.tup [.int 6, .int 1], .int 2] [] = .ok (.tup [.int 2, .int 1], []) := by kernel_rfl
theorem cut_6_1_3 (S : Sto) : f_l_cut [.tup [.int 6, .int 1], .int 3] S = .ok (.lst [.tup [.tup [.int 3, .int 1], .int 0]], S) := by kernel_rfl
theorem rib_6_1_3 (S : Sto) : f_ribbons [.tup [.int 6, .int 1], .int 3] S = .ok (.tup [.tup [.tup [.int 3, .int 1], .int 0]], S) := by kernel_rfl
theorem cen_6_1_3 : f_center [.tup [.int 6, .int 1], .int 3] [] = .ok (.tup [.int 3, .int 1], []) := by kernel_rfl
theorem cut_6_1_4 (S : Sto) : f_l_cut [.tup [.int 6, .int 1], .int 4] S = .ok (.lst [.tup [.tup [.int 2, .int 1], .int 0]], S) := by kernel_rfl
theorem rib_6_1_4 (S : Sto) : f_ribbons [.tup [.int 6, .int 1], .int 4] S = .ok (.tup [.tup [.tup [.int 2, .int 1], .int 0]], S) := by kernel_rfl
theorem cen_6_1_4 : f_center [.tup [.int 6, .int 1], .int 4] [] = .ok (.tup [.int 2, .int 1], []) := by kernel_rfl
theorem cut_6_1_5 (S : Sto) : f_l_cut [.tup [.int 6, .int 1], .int 5] S = .ok (.lst [.tup [.tup [.int 1, .int 1], .int 0]], S) := by kernel_rfl
theorem rib_6_1_5 (S : Sto) : f_ribbons [.tup [.int 6, .int 1], .int 5] S = .ok (.tup [.tup [.tup [.int 1, .int 1], .int 0]], S) := by kernel_rfl
theorem cen_6_1_5 : f_center [.tup [.int 6, .int 1], .int 5] [] = .ok (.tup [.int 1, .int 1], []) := by kernel_rfl
theorem cut_5_2_1 (S : Sto) : f_l_cut [.tup [.int 5, .int 2], .int 1] S = .ok (.lst [.tup [.tup [.int 4, .int 2], .int 0], .tup [.tup [.int 5, .int 1], .int 0]], S) := by kernel_rfl
theorem rib_5_2_1 (S : Sto) : f_ribbons [.tup [.int 5, .int 2], .int 1] S = .ok (.tup [.tup [.tup [.int 4, .int 2], .int 0], .tup [.tup [.int 5, .int 1], .int 0]], S) := by kernel_rfl
theorem cen_5_2_1 : f_center [.tup [.int 5, .int 2], .int 1] [] = .ok (.tup [], []) := by kernel_rfl
theorem cut_5_2_2 (S : Sto) : f_l_cut [.tup [.int 5, .int 2], .int 2] S = .ok (.lst [.tup [.tup [.int 3, .int 2], .int 0], .tup [.tup [.int 5], .int 0]], S) := by kernel_rfl
theorem rib_5_2_2 (S : Sto) : f_ribbons [.tup [.int 5, .int 2], .int 2] S = .ok (.tup [.tup [.tup [.int 3, .int 2], .int 0], .tup [.tup [.int 5], .int 0]], S) := by kernel_rfl
theorem cen_5_2_2 : f_center [.tup [.int 5, .int 2], .int 2] [] = .ok (.tup [.int 1], []) := by kernel_rfl
theorem cut_5_2_3 (S : Sto) : f_l_cut [.tup [.int 5, .int 2], .int 3] S = .ok (.lst [.tup [.tup [.int 2, .int 2], .int 0]], S) := by kernel_rfl
theorem rib_5_2_3 (S : Sto) : f_ribbons [.tup [.int 5, .int 2], .int 3] S = .ok (.tup [.tup [.tup [.int 2, .int 2], .int 0]], S) := by kernel_rfl
theorem cen_5_2_3 : f_center [.tup [.int 5, .int 2], .int 3] [] = .ok (.tup [.int 1], []) := by kernel_rfl
theorem cut_5_2_4 (S : Sto) : f_l_cut [.tup [.int 5, .int 2], .int 4] S = .ok (.lst [], S) := by kernel_rfl
theorem rib_5_2_4 (S : Sto) : f_ribbons [.tup [.int 5, .int 2], .int 4] S = .ok (.tup [], S) := by kernel_rfl
theorem cen_5_2_4 : f_center [.tup [.int 5, .int 2], .int 4] [] = .ok (.tup [.int 5, .int 2], []) := by kernel_rfl
theorem cut_5_2_5 (S : Sto) : f_l_cut [.tup [.int 5, .int 2], .int 5] S = .ok (.lst [.tup [.tup [.int 1, .int 1], .int 1]], S) := by kernel_rfl
theorem rib_5_2_5 (S : Sto) : f_ribbons [.tup [.int 5, .int 2], .int 5] S = .ok (.tup [.tup [.tup [.int 1, .int 1], .int 1]], S) := by kernel_rfl
theorem cen_5_2_5 : f_center [.tup [.int 5, .int 2], .int 5] [] = .ok (.tup [.int 1, .int 1], []) := by kernel_rfl
theorem cut_5_1_1_1 (S : Sto) : f_l_cut [.tup [.int 5, .int 1, .int 1], .int 1] S = .ok (.lst [.tup [.tup [.int 4, .int 1, .int 1], .int 0], .tup [.tup [.int 5, .int 1], .int 0]], S) := by kernel_rfl
theorem rib_5_1_1_1 (S : Sto) : f_ribbons [.tup [.int 5, .int 1, .int 1], .int 1] S = .ok (.tup [.tup [.tup [.int 4, .int 1, .int 1], .int 0], .tup [.tup [.int 5, .int 1], .int 0]], S) := by kernel_rfl
theorem cen_5_1_1_1 : f_center [.tup [.int 5, .int 1, .int 1], .int 1] [] = .ok (.tup [], []) := by kernel_rfl
theorem cut_5_1_1_2 (S : Sto) : f_l_cut [.tup [.int 5, .int 1, .int 1], .int 2] S = .ok (.lst [.tup [.tup [.int 3, .int 1, .int 1], .int 0], .tup [.tup [.int 5], .int 1]], S) := by kernel_rfl
theorem rib_5_1_1_2 (S : Sto) : f_ribbons [.tup [.int 5, .int 1, .int 1], .int 2] S = .ok (.tup [.tup [.tup [.int 3, .int 1, .int 1], .int 0], .tup [.tup [.int 5], .int 1]], S) := by kernel_rfl
theorem cen_5_1_1_2 : f_center [.tup [.int 5, .int 1, .int 1], .int 2] [] = .ok (.tup [.int 1], []) := by kernel_rfl
theorem cut_5_1_1_3 (S : Sto) : f_l_cut [.tup [.int 5, .int 1, .int 1], .int 3] S = .ok (.lst [.tup [.tup [.int 2, .int 1, .int 1], .int 0]], S) := by kernel_rfl
theorem rib_5_1_1_3 (S : Sto) : f_ribbons [.tup [.int 5, .int 1, .int 1], .int 3] S = .ok (.tup [.tup [.tup [.int 2, .int 1, .int 1], .int 0]], S) := by kernel_rfl
theorem cen_5_1_1_3 : f_center [.tup [.int 5, .int 1, .int 1], .int 3] [] = .ok (.tup [.int 2, .int 1, .int 1], []) := by kernel_rfl
theorem cut_5_1_1_4 (S : Sto) : f_l_cut [.tup [.int 5, .int 1, .int 1], .int 4] S = .ok (.lst [.tup [.tup [.int 1, .int 1, .int 1], .int 0]], S) := by kernel_rfl
theorem rib_5_1_1_4 (S : Sto) : f_ribbons [.tup [.int 5, .int 1, .int 1], .int 4] S = .ok (.tup [.tup [.tup [.int 1, .int 1, .int 1], .int 0]], S) := by kernel_rfl
theorem cen_5_1_1_4 : f_center [.tup [.int 5, .int 1, .int 1], .int 4] [] = .ok (.tup [.int 1, .int 1, .int 1], []) := by kernel_rfl
theorem cut_5_1_1_5 (S : Sto) : f_l_cut [.tup [.int 5, .int 1, .int 1], .int 5] S = .ok (.lst [], S) := by kernel_rfl
theorem rib_5_1_1_5 (S : Sto) : f_ribbons [.tup [.int 5, .int 1, .int 1], .int 5] S = .ok (.tup [], S) := by kernel_rfl
theorem cen_5_1_1_5 : f_center [.tup [.int 5, .int 1, .int 1], .int 5] [] = .ok (.tup [.int 5, .int 1, .int 1], []) := by kernel_rfl
theorem cut_4_3_1 (S : Sto) : f_l_cut [.tup [.int 4, .int 3], .int 1] S = .ok (.lst [.tup [.tup [.int 3, .int 3], .int 0], .tup [.tup [.int 4, .int 2], .int 0]], S) := by kernel_rfl
theorem rib_4_3_1 (S : Sto) : f_ribbons [.tup [.int 4, .int 3], .int 1] S = .ok (.tup [.tup [.tup [.int 3, .int 3], .int 0], .tup [.tup [.int 4, .int 2], .int 0]], S) := by kernel_rfl
theorem cen_4_3_1 : f_center [.tup [.int 4, .int 3], .int 1] [] = .ok (.tup [], []) := by kernel_rfl
theorem cut_4_3_2 (S : Sto) : f_l_cut [.tup [.int 4, .int 3], .int 2] S = .ok (.lst [.tup [.tup [.int 4, .int 1], .int 0]], S) := by kernel_rfl
theorem rib_4_3_2 (S : Sto) : f_ribbons [.tup [.int 4, .int 3], .int 2] S = .ok (.tup [.tup [.tup [.int 4, .int 1], .int 0]], S) := by kernel_rfl
theorem cen_4_3_2 : f_center [.tup [.int 4, .int 3], .int 2] [] = .ok (.tup [.int 2, .int 1], []) := by kernel_rfl
theorem cut_4_3_3 (S : Sto) : f_l_cut [.tup [.int 4, .int 3], .int 3] S = .ok (.lst [.tup [.tup [.int 2, .int 2], .int 1], .tup [.tup [.int 4], .int 0]], S) := by kernel_rfl
theorem rib_4_3_3 (S : Sto) : f_ribbons [.tup [.int 4, .int 3], .int 3] S = .ok (.tup [.tup [.tup [.int 2, .int 2], .int 1], .tup [.tup [.int 4], .int 0]], S) := by kernel_rfl
theorem cen_4_3_3 : f_center [.tup [.int 4, .int 3], .int 3] [] = .ok (.tup [.int 1], []) := by kernel_rfl
theorem cut_4_3_4 (S : Sto) : f_l_cut [.tup [.int 4, .int 3], .int 4] S = .ok (.lst [.tup [.tup [.int 2, .int 1], .int 1]], S) := by kernel_rfl
theorem rib_4_3_4 (S : Sto) : f_ribbons [.tup [.int 4, .int 3], .int 4] S = .ok (.tup [.tup [.tup [.int 2, .int 1], .int 1]], S) := by kernel_rfl
theorem cen_4_3_4 : f_center [.tup [.int 4, .int 3], .int 4] [] = .ok (.tup [.int 2, .int 1], []) := by kernel_rfl
theorem cut_4_3_5 (S : Sto) : f_l_cut [.tup [.int 4, .int 3], .int 5] S = .ok (.lst [.tup [.tup [.int 2], .int 1]], S) := by kernel_rfl
theorem rib_4_3_5 (S : Sto) : f_ribbons [.tup [.int 4, .int 3], .int 5] S = .ok (.tup [.tup [.tup [.int 2], .int 1]], S) := by kernel_rfl
theorem cen_4_3_5 : f_center [.tup [.int 4, .int 3], .int 5] [] = .ok (.tup [.int 2], []) := by kernel_rfl
theorem cut_4_2_1_1 (S : Sto) : f_l_cut [.tup [.int 4, .int 2, .int 1], .int 1] S = .ok (.lst [.tup [.tup [.int 3, .int 2, .int 1], .int 0], .tup [.tup [.int 4, .int 1, .int 1], .int 0], .tup [.tup [.int 4, .int 2], .int 0]], S) := by kernel_rfl
theorem rib_4_2_1_1 (S : Sto) : f_ribbons [.tup [.int 4, .int 2, .int 1], .int 1] S = .ok (.tup [.tup [.tup [.int 3, .int 2, .int 1], .int 0], .tup [.tup [.int 4, .int 1, .int 1], .int 0], .tup [.tup [.int 4, .int 2], .int 0]], S) := by kernel_rfl
theorem cen_4_2_1_1 : f_center [.tup [.int 4, .int 2, .int 1], .int 1] [] = .ok (.tup [], []) := by kernel_rfl
theorem cut_4_2_1_2 (S : Sto) : f_l_cut [.tup [.int 4, .int 2, .int 1], .int 2] S = .ok (.lst [.tup [.tup [.int 2, .int 2, .int 1], .int 0]], S) := by kernel_rfl
theorem rib_4_2_1_2 (S : Sto) : f_ribbons [.tup [.int 4, .int 2, .int 1], .int 2] S = .ok (.tup [.tup [.tup [.int 2, .int 2, .int 1], .int 0]], S) := by kernel_rfl
theorem cen_4_2_1_2 : f_center [.tup [.int 4, .int 2, .int 1], .int 2] [] = .ok (.tup [.int 1], []) := by kernel_rfl
theorem cut_4_2_1_3 (S : Sto) : f_l_cut [.tup [.int 4, .int 2, .int 1], .int 3] S = .ok (.lst [.tup [.tup [.int 4], .int 1]], S) := by kernel_rfl
theorem rib_4_2_1_3 (S : Sto) : f_ribbons [.tup [.int 4, .int 2, .int 1], .int 3] S = .ok (.tup [.tup [.tup [.int 4], .int 1]], S) := by kernel_rfl
theorem cen_4_2_1_3 : f_center [.tup [.int 4, .int 2, .int 1], .int 3] [] = .ok (.tup [.int 1], []) := by kernel_rfl
theorem cut_4_2_1_4 (S : Sto) : f_l_cut [.tup [.int 4, .int 2, .int 1], .int 4] S = .ok (.lst [.tup [.tup [.int 1, .int 1, .int 1], .int 1]], S) := by kernel_rfl
theorem rib_4_2_1_4 (S : Sto) : f_ribbons [.tup [.int 4, .int 2, .int 1], .int 4] S = .ok (.tup [.tup [.tup [.int 1, .int 1, .int 1], .int 1]], S) := by kernel_rfl
theorem cen_4_2_1_4 : f_center [.tup [.int 4, .int 2, .int 1], .int 4] [] = .ok (.tup [.int 1, .int 1, .int 1], []) := by kernel_rfl
theorem cut_4_2_1_5 (S : Sto) : f_l_cut [.tup [.int 4, .int 2, .int 1], .int 5] S = .ok (.lst [], S) := by kernel_rfl
theorem rib_4_2_1_5 (S : Sto) : f_ribbons [.tup [.int 4, .int 2, .int 1], .int 5] S = .ok (.tup [], S) := by kernel_rfl
theorem cen_4_2_1_5 : f_center [.tup [.int 4, .int 2, .int 1], .int 5] [] = .ok (.tup [.int 4, .int 2, .int 1], []) := by kernel_rfl
theorem cut_4_1_1_1_1 (S : Sto) : f_l_cut [.tup [.int 4, .int 1, .int 1, .int 1], .int 1] S = .ok (.lst [.tup [.tup [.int 3, .int 1, .int 1, .int 1], .int 0], .tup [.tup [.int 4, .int 1, .int 1], .int 0]], S) := by kernel_rfl
theorem rib_4_1_1_1_1 (S : Sto) : f_ribbons [.tup [.int 4, .int 1, .int 1, .int 1], .int 1] S = .ok (.tup [.tup [.tup [.int 3, .int 1, .int 1, .int 1], .int 0], .tup [.tup [.int 4, .int 1, .int 1], .int 0]], S) := by kernel_rfl
theorem cen_4_1_1_1_1 : f_center [.tup [.int 4, .int 1, .int 1, .int 1], .int 1] [] = .ok (.tup [], []) := by kernel_rfl
theorem cut_4_1_1_1_2 (S : Sto) : f_l_cut [.tup [.int 4, .int 1, .int 1, .int 1], .int 2] S = .ok (.lst [.tup [.tup [.int 2, .int 1, .int 1, .int 1], .int 0], .tup [.tup [.int 4, .int 1], .int 1]], S) := by kernel_rfl
theorem rib_4_1_1_1_2 (S : Sto) : f_ribbons [.tup [.int 4, .int 1, .int 1, .int 1], .int 2] S = .ok (.tup [.tup [.tup [.int 2, .int 1, .int 1, .int 1], .int 0], .tup [.tup [.int 4, .int 1], .int 1]], S) := by kernel_rfl
theorem cen_4_1_1_1_2 : f_center [.tup [.int 4, .int 1, .int 1, .int 1], .int 2] [] = .ok (.tup [.int 2, .int 1], []) := by kernel_rfl
theorem cut_4_1_1_1_3 (S : Sto) : f_l_cut [.tup [.int 4, .int 1, .int 1, .int 1], .int 3] S = .ok (.lst [.tup [.tup [.int 1, .int 1, .int 1, .int 1], .int 0], .tup [.tup [.int 4], .int 2]], S) := by kernel_rfl
theorem rib_4_1_1_1_3 (S : Sto) : f_ribbons [.tup [.int 4, .int 1, .int 1, .int 1], .int 3] S = .ok (.tup [.tup [.tup [.int 1, .int 1, .int 1, .int 1], .int 0], .tup [.tup [.int 4], .int 2]], S) := by kernel_rfl
theorem cen_4_1_1_1_3 : f_center [.tup [.int 4, .int 1, .int 1, .int 1], .int 3] [] = .ok (.tup [.int 1], []) := by kernel_rfl
theorem cut_4_1_1_1_4 (S : Sto) : f_l_cut [.tup [.int 4, .int 1, .int 1, .int 1], .int 4] S = .ok (.lst [], S) := by kernel_rfl
theorem rib_4_1_1_1_4 (S : Sto) : f_ribbons [.tup [.int 4, .int 1, .int 1, .int 1], .int 4] S = .ok (.tup [], S) := by kernel_rfl
theorem cen_4_1_1_1_4 : f_center [.tup [.int 4, .int 1, .int 1, .int 1], .int 4] [] = .ok (.tup [.int 4, .int 1, .int 1, .int 1], []) := by kernel_rfl
theorem cut_4_1_1_1_5 (S : Sto) : f_l_cut [.tup [.int 4, .int 1, .int 1, .int 1], .int 5] S = .ok (.lst [], S) := by kernel_rfl
theorem rib_4_1_1_1_5 (S : Sto) : f_ribbons [.tup [.int 4, .int 1, .int 1, .int 1], .int 5] S = .ok (.tup [], S) := by kernel_rfl
theorem cen_4_1_1_1_5 : f_center [.tup [.int 4, .int 1, .int 1, .int 1], .int 5] [] = .ok (.tup [.int 4, .int 1, .int 1, .int 1], []) := by kernel_rfl
theorem cut_3_3_1_1 (S : Sto) : f_l_cut [.tup [.int 3, .int 3, .int 1], .int 1] S = .ok (.lst [.tup [.tup [.int 3, .int 2, .int 1], .int 0], .tup [.tup [.int 3, .int 3], .int 0]], S) := by kernel_rfl
theorem rib_3_3_1_1 (S : Sto) : f_ribbons [.tup [.int 3, .int 3, .int 1], .int 1] S = .ok (.tup [.tup [.tup [.int 3, .int 2, .int 1], .int 0], .tup [.tup [.int 3, .int 3], .int 0]], S) := by kernel_rfl
theorem cen_3_3_1_1 : f_center [.tup [.int 3, .int 3, .int 1], .int 1] [] = .ok (.tup [], []) := by kernel_rfl
theorem cut_3_3_1_2 (S : Sto) : f_l_cut [.tup [.int 3, .int 3, .int 1], .int 2] S = .ok (.lst [.tup [.tup [.int 2, .int 2, .int 1], .int 1], .tup [.tup [.int 3, .int 1, .int 1], .int 0]], S) := by kernel_rfl
theorem rib_3_3_1_2 (S : Sto) : f_ribbons [.tup [.int 3, .int 3, .int 1], .int 2] S = .ok (.tup [.tup [.tup [.int 2, .int 2, .int 1], .int 1], .tup [.tup [.int 3, .int 1, .int 1], .int 0]], S) := by kernel_rfl
theorem cen_3_3_1_2 : f_center [.tup [.int 3, .int 3, .int 1], .int 2] [] = .ok (.tup [.int 1], []) := by kernel_rfl
theorem cut_3_3_1_3 (S : Sto) : f_l_cut [.tup [.int 3, .int 3, .int 1], .int 3] S = .ok (.lst [.tup [.tup [.int 2, .int 1, .int 1], .int 1]], S) := by kernel_rfl
theorem rib_3_3_1_3 (S : Sto) : f_ribbons [.tup [.int 3, .int 3, .int 1], .int 3] S = .ok (.tup [.tup [.tup [.int 2, .int 1, .int 1], .int 1]], S) := by kernel_rfl
theorem cen_3_3_1_3 : f_center [.tup [.int 3, .int 3, .int 1], .int 3] [] = .ok (.tup [.int 2, .int 1, .int 1], []) := by kernel_rfl
theorem cut_3_3_1_4 (S : Sto) : f_l_cut [.tup [.int 3, .int 3, .int 1], .int 4] S = .ok (.lst [.tup [.tup [.int 3], .int 1]], S) := by kernel_rfl
theorem rib_3_3_1_4 (S : Sto) : f_ribbons [.tup [.int 3, .int 3, .int 1], .int 4] S = .ok (.tup [.tup [.tup [.int 3], .int 1]], S) := by kernel_rfl
theorem cen_3_3_1_4 : f_center [.tup [.int 3, .int 3, .int 1], .int 4] [] = .ok (.tup [.int 3], []) := by kernel_rfl
theorem cut_3_3_1_5 (S : Sto) : f_l_cut [.tup [.int 3, .int 3, .int 1], .int 5] S = .ok (.lst [.tup [.tup [.int 2], .int 2]], S) := by kernel_rfl
theorem rib_3_3_1_5 (S : Sto) : f_ribbons [.tup [.int 3, .int 3, .int 1], .int 5] S = .ok (.tup [.tup [.tup [.int 2], .int 2]], S) := by kernel_rfl
theorem cen_3_3_1_5 : f_center [.tup [.int 3, .int 3, .int 1], .int 5] [] = .ok (.tup [.int 2], []) := by kernel_rfl
end K60
set_option Elab.async false
set_option maxRecDepth 100000
set_option maxHeartbeats 0
namespace K60
open PySem PySem.Spec PyProof.Rows L2 J
theorem cut_3_2_2_1 (S : Sto) : f_l_cut [.tup [.int 3, .int 2, .int 2], .int 1] S = .ok (.lst [.tup [.tup [.int 2, .int 2, .int 2], .int 0], .tup [.tup [.int 3, .int 2, .int 1], .int 0]], S) := by kernel_rfl
theorem rib_3_2_2_1 (S : Sto) : f_ribbons [.tup [.int 3, .int 2, .int 2], .int 1] S = .ok (.tup [.tup [.tup [.int 2, .int 2, .int 2], .int 0], .tup [.tup [.int 3, .int 2, .int 1], .int 0]], S) := by kernel_rfl
theorem cen_3_2_2_1 : f_center [.tup [.int 3, .int 2, .int 2], .int 1] [] = .ok (.tup [], []) := by kernel_rfl
theorem cut_3_2_2_2 (S : Sto) : f_l_cut [.tup [.int 3, .int 2, .int 2], .int 2] S = .ok (.lst [.tup [.tup [.int 3, .int 1, .int 1], .int 1], .tup [.tup [.int 3, .int 2], .int 0]], S) := by kernel_rfl
theorem rib_3_2_2_2 (S : Sto) : f_ribbons [.tup [.int 3, .int 2, .int 2], .int 2] S = .ok (.tup [.tup [.tup [.int 3, .int 1, .int 1], .int 1], .tup [.tup [.int 3, .int 2], .int 0]], S) := by kernel_rfl
theorem cen_3_2_2_2 : f_center [.tup [.int 3, .int 2, .int 2], .int 2] [] = .ok (.tup [.int 1], []) := by kernel_rfl
theorem cut_3_2_2_3 (S : Sto) : f_l_cut [.tup [.int 3, .int 2, .int 2], .int 3] S = .ok (.lst [.tup [.tup [.int 3, .int 1], .int 1]], S) := by kernel_rfl
theorem rib_3_2_2_3 (S : Sto) : f_ribbons [.tup [.int 3, .int 2, .int 2], .int 3] S = .ok (.tup [.tup [.tup [.int 3, .int 1], .int 1]], S) := by kernel_rfl
theorem cen_3_2_2_3 : f_center [.tup [.int 3, .int 2, .int 2], .int 3] [] = .ok (.tup [.int 3, .int 1], []) := by kernel_rfl
theorem cut_3_2_2_4 (S : Sto) : f_l_cut [.tup [.int 3, .int 2, .int 2], .int 4] S = .ok (.lst [.tup [.tup [.int 1, .int 1, .int 1], .int 2]], S) := by kernel_rfl
theorem rib_3_2_2_4 (S : Sto) : f_ribbons [.tup [.int 3, .int 2, .int 2], .int 4] S = .ok (.tup [.tup [.tup [.int 1, .int 1, .int 1], .int 2]], S) := by kernel_rfl
theorem cen_3_2_2_4 : f_center [.tup [.int 3, .int 2, .int 2], .int 4] [] = .ok (.tup [.int 1, .int 1, .int 1], []) := by kernel_rfl
theorem cut_3_2_2_5 (S : Sto) : f_l_cut [.tup [.int 3, .int 2, .int 2], .int 5] S = .ok (.lst [.tup [.tup [.int 1, .int 1], .int 2]], S) := by kernel_rfl
theorem rib_3_2_2_5 (S : Sto) : f_ribbons [.tup [.int 3, .int 2, .int 2], .int 5] S = .ok (.tup [.tup [.tup [.int 1, .int 1], .int 2]], S) := by kernel_rfl
theorem cen_3_2_2_5 : f_center [.tup [.int 3, .int 2, .int 2], .int 5] [] = .ok (.tup [.int 1, .int 1], []) := by kernel_rfl
theorem cut_3_2_1_1_1 (S : Sto) : f_l_cut [.tup [.int 3, .int 2, .int 1, .int 1], .int 1] S = .ok (.lst [.tup [.tup [.int 2, .int 2, .int 1, .int 1], .int 0], .tup [.tup [.int 3, .int 1, .int 1, .int 1], .int 0], .tup [.tup [.int 3, .int 2, .int 1], .int 0]], S) := by kernel_rfl
theorem rib_3_2_1_1_1 (S : Sto) : f_ribbons [.tup [.int 3, .int 2, .int 1, .int 1], .int 1] S = .ok (.tup [.tup [.tup [.int 2, .int 2, .int 1, .int 1], .int 0], .tup [.tup [.int 3, .int 1, .int 1, .int 1], .int 0], .tup [.tup [.int 3, .int 2, .int 1], .int 0]], S) := by kernel_rfl
theorem cen_3_2_1_1_1 : f_center [.tup [.int 3, .int 2, .int 1, .int 1], .int 1] [] = .ok (.tup [], []) := by kernel_rfl
theorem cut_3_2_1_1_2 (S : Sto) : f_l_cut [.tup [.int 3, .int 2, .int 1, .int 1], .int 2] S = .ok (.lst [.tup [.tup [.int 3, .int 2], .int 1]], S) := by kernel_rfl
theorem rib_3_2_1_1_2 (S : Sto) : f_ribbons [.tup [.int 3, .int 2, .int 1, .int 1], .int 2] S = .ok (.tup [.tup [.tup [.int 3, .int 2], .int 1]], S) := by kernel_rfl
theorem cen_3_2_1_1_2 : f_center [.tup [.int 3, .int 2, .int 1, .int 1], .int 2] [] = .ok (.tup [.int 1], []) := by kernel_rfl
theorem cut_3_2_1_1_3 (S : Sto) : f_l_cut [.tup [.int 3, .int 2, .int 1, .int 1], .int 3] S = .ok (.lst [.tup [.tup [.int 1, .int 1, .int 1, .int 1], .int 1]], S) := by kernel_rfl
theorem rib_3_2_1_1_3 (S : Sto) : f_ribbons [.tup [.int 3, .int 2, .int 1, .int 1], .int 3] S = .ok (.tup [.tup [.tup [.int 1, .int 1, .int 1, .int 1], .int 1]], S) := by kernel_rfl
theorem cen_3_2_1_1_3 : f_center [.tup [.int 3, .int 2, .int 1, .int 1], .int 3] [] = .ok (.tup [.int 1], []) := by kernel_rfl
theorem cut_3_2_1_1_4 (S : Sto) : f_l_cut [.tup [.int 3, .int 2, .int 1, .int 1], .int 4] S = .ok (.lst [.tup [.tup [.int 3], .int 2]], S) := by kernel_rfl
theorem rib_3_2_1_1_4 (S : Sto) : f_ribbons [.tup [.int 3, .int 2, .int 1, .int 1], .int 4] S = .ok (.tup [.tup [.tup [.int 3], .int 2]], S) := by kernel_rfl
theorem cen_3_2_1_1_4 : f_center [.tup [.int 3, .int 2, .int 1, .int 1], .int 4] [] = .ok (.tup [.int 3], []) := by kernel_rfl
theorem cut_3_2_1_1_5 (S : Sto) : f_l_cut [.tup [.int 3, .int 2, .int 1, .int 1], .int 5] S = .ok (.lst [], S) := by kernel_rfl
theorem rib_3_2_1_1_5 (S : Sto) : f_ribbons [.tup [.int 3, .int 2, .int 1, .int 1], .int 5] S = .ok (.tup [], S) := by kernel_rfl
theorem cen_3_2_1_1_5 : f_center [.tup [.int 3, .int 2, .int 1, .int 1], .int 5] [] = .ok (.tup [.int 3, .int 2, .int 1, .int 1], []) := by kernel_rfl
theorem cut_3_1_1_1_1_1 (S : Sto) : f_l_cut [.tup [.int 3, .int 1, .int 1, .int 1, .int 1], .int 1] S = .ok (.lst [.tup [.tup [.int 2, .int 1, .int 1, .int 1, .int 1], .int 0], .tup [.tup [.int 3, .int 1, .int 1, .int 1], .int 0]], S) := by kernel_rfl
theorem rib_3_1_1_1_1_1 (S : Sto) : f_ribbons [.tup [.int 3, .int 1, .int 1, .int 1, .int 1], .int 1] S = .ok (.tup [.tup [.tup [.int 2, .int 1, .int 1, .int 1, .int 1], .int 0], .tup [.tup [.int 3, .int 1, .int 1, .int 1], .int 0]], S) := by kernel_rfl
theorem cen_3_1_1_1_1_1 : f_center [.tup [.int 3, .int 1, .int 1, .int 1, .int 1], .int 1] [] = .ok (.tup [], []) := by kernel_rfl
theorem cut_3_1_1_1_1_2 (S : Sto) : f_l_cut [.tup [.int 3, .int 1, .int 1, .int 1, .int 1], .int 2] S = .ok (.lst [.tup [.tup [.int 1, .int 1, .int 1, .int 1, .int 1], .int 0], .tup [.tup [.int 3, .int 1, .int 1], .int 1]], S) := by kernel_rfl
theorem rib_3_1_1_1_1_2 (S : Sto) : f_ribbons [.tup [.int 3, .int 1, .int 1, .int 1, .int 1], .int 2] S = .ok (.tup [.tup [.tup [.int 1, .int 1, .int 1, .int 1, .int 1], .int 0], .tup [.tup [.int 3, .int 1, .int 1], .int 1]], S) := by kernel_rfl
theorem cen_3_1_1_1_1_2 : f_center [.tup [.int 3, .int 1, .int 1, .int 1, .int 1], .int 2] [] = .ok (.tup [.int 1], []) := by kernel_rfl
theorem cut_3_1_1_1_1_3 (S : Sto) : f_l_cut [.tup [.int 3, .int 1, .int 1, .int 1, .int 1], .int 3] S = .ok (.lst [.tup [.tup [.int 3, .int 1], .int 2]], S) := by kernel_rfl
theorem rib_3_1_1_1_1_3 (S : Sto) : f_ribbons [.tup [.int 3, .int 1, .int 1, .int 1, .int 1], .int 3] S = .ok (.tup [.tup [.tup [.int 3, .int 1], .int 2]], S) := by kernel_rfl
theorem cen_3_1_1_1_1_3 : f_center [.tup [.int 3, .int 1, .int 1, .int 1, .int 1], .int 3] [] = .ok (.tup [.int 3, .int 1], []) := by kernel_rfl
theorem cut_3_1_1_1_1_4 (S : Sto) : f_l_cut [.tup [.int 3, .int 1, .int 1, .int 1, .int 1], .int 4] S = .ok (.lst [.tup [.tup [.int 3], .int 3]], S) := by kernel_rfl
theorem rib_3_1_1_1_1_4 (S : Sto) : f_ribbons [.tup [.int 3, .int 1, .int 1, .int 1, .int 1], .int 4] S = .ok (.tup [.tup [.tup [.int 3], .int 3]], S) := by kernel_rfl
theorem cen_3_1_1_1_1_4 : f_center [.tup [.int 3, .int 1, .int 1, .int 1, .int 1], .int 4] [] = .ok (.tup [.int 3], []) := by kernel_rfl
theorem cut_3_1_1_1_1_5 (S : Sto) : f_l_cut [.tup [.int 3, .int 1, .int 1, .int 1, .int 1], .int 5] S = .ok (.lst [], S) := by kernel_rfl
theorem rib_3_1_1_1_1_5 (S : Sto) : f_ribbons [.tup [.int 3, .int 1, .int 1, .int 1, .int 1], .int 5] S = .ok (.tup [], S) := by kernel_rfl
theorem cen_3_1_1_1_1_5 : f_center [.tup [.int 3, .int 1, .int 1, .int 1, .int 1], .int 5] [] = .ok (.tup [.int 3, .int 1, .int 1, .int 1, .int 1], []) := by kernel_rfl
theorem cut_2_2_2_1_1 (S : Sto) : f_l_cut [.tup [.int 2, .int 2, .int 2, .int 1], .int 1] S = .ok (.lst [.tup [.tup [.int 2, .int 2, .int 1, .int 1], .int 0], .tup [.tup [.int 2, .int 2, .int 2], .int 0]], S) := by kernel_rfl
theorem rib_2_2_2_1_1 (S : Sto) : f_ribbons [.tup [.int 2, .int 2, .int 2, .int 1], .int 1] S = .ok (.tup [.tup [.tup [.int 2, .int 2, .int 1, .int 1], .int 0], .tup [.tup [.int 2, .int 2, .int 2], .int 0]], S) := by kernel_rfl
theorem cen_2_2_2_1_1 : f_center [.tup [.int 2, .int 2, .int 2, .int 1], .int 1] [] = .ok (.tup [], []) := by kernel_rfl
theorem cut_2_2_2_1_2 (S : Sto) : f_l_cut [.tup [.int 2, .int 2, .int 2, .int 1], .int 2] S = .ok (.lst [.tup [.tup [.int 2, .int 1, .int 1, .int 1], .int 1]], S) := by kernel_rfl
theorem rib_2_2_2_1_2 (S : Sto) : f_ribbons [.tup [.int 2, .int 2, .int 2, .int 1], .int 2] S = .ok (.tup [.tup [.tup [.int 2, .int 1, .int 1, .int 1], .int 1]], S) := by kernel_rfl
theorem cen_2_2_2_1_2 : f_center [.tup [.int 2, .int 2, .int 2, .int 1], .int 2] [] = .ok (.tup [.int 2, .int 1], []) := by kernel_rfl
theorem cut_2_2_2_1_3 (S : Sto) : f_l_cut [.tup [.int 2, .int 2, .int 2, .int 1], .int 3] S = .ok (.lst [.tup [.tup [.int 1, .int 1, .int 1, .int 1], .int 2], .tup [.tup [.int 2, .int 2], .int 1]], S) := by kernel_rfl
theorem rib_2_2_2_1_3 (S : Sto) : f_ribbons [.tup [.int 2, .int 2, .int 2, .int 1], .int 3] S = .ok (.tup [.tup [.tup [.int 1, .int 1, .int 1, .int 1], .int 2], .tup [.tup [.int 2, .int 2], .int 1]], S) := by kernel_rfl
theorem cen_2_2_2_1_3 : f_center [.tup [.int 2, .int 2, .int 2, .int 1], .int 3] [] = .ok (.tup [.int 1], []) := by kernel_rfl
theorem cut_2_2_2_1_4 (S : Sto) : f_l_cut [.tup [.int 2, .int 2, .int 2, .int 1], .int 4] S = .ok (.lst [.tup [.tup [.int 2, .int 1], .int 2]], S) := by kernel_rfl
theorem rib_2_2_2_1_4 (S : Sto) : f_ribbons [.tup [.int 2, .int 2, .int 2, .int 1], .int 4] S = .ok (.tup [.tup [.tup [.int 2, .int 1], .int 2]], S) := by kernel_rfl
theorem cen_2_2_2_1_4 : f_center [.tup [.int 2, .int 2, .int 2, .int 1], .int 4] [] = .ok (.tup [.int 2, .int 1], []) := by kernel_rfl
theorem cut_2_2_2_1_5 (S : Sto) : f_l_cut [.tup [.int 2, .int 2, .int 2, .int 1], .int 5] S = .ok (.lst [.tup [.tup [.int 1, .int 1], .int 3]], S) := by kernel_rfl
theorem rib_2_2_2_1_5 (S : Sto) : f_ribbons [.tup [.int 2, .int 2, .int 2, .int 1], .int 5] S = .ok (.tup [.tup [.tup [.int 1, .int 1], .int 3]], S) := by kernel_rfl
theorem cen_2_2_2_1_5 : f_center [.tup [.int 2, .int 2, .int 2, .int 1], .int 5] [] = .ok (.tup [.int 1, .int 1], []) := by kernel_rfl
theorem cut_2_2_1_1_1_1 (S : Sto) : f_l_cut [.tup [.int 2, .int 2, .int 1, .int 1, .int 1], .int 1] S = .ok (.lst [.tup [.tup [.int 2, .int 1, .int 1, .int 1, .int 1], .int 0], .tup [.tup [.int 2, .int 2, .int 1, .int 1], .int 0]], S) := by kernel_rfl
theorem rib_2_2_1_1_1_1 (S : Sto) : f_ribbons [.tup [.int 2, .int 2, .int 1, .int 1, .int 1], .int 1] S = .ok (.tup [.tup [.tup [.int 2, .int 1, .int 1, .int 1, .int 1], .int 0], .tup [.tup [.int 2, .int 2, .int 1, .int 1], .int 0]], S) := by kernel_rfl
theorem cen_2_2_1_1_1_1 : f_center [.tup [.int 2, .int 2, .int 1, .int 1, .int 1], .int 1] [] = .ok (.tup [], []) := by kernel_rfl
theorem cut_2_2_1_1_1_2 (S : Sto) : f_l_cut [.tup [.int 2, .int 2, .int 1, .int 1, .int 1], .int 2] S = .ok (.lst [.tup [.tup [.int 1, .int 1, .int 1, .int 1, .int 1], .int 1], .tup [.tup [.int 2, .int 2, .int 1], .int 1]], S) := by kernel_rfl
theorem rib_2_2_1_1_1_2 (S : Sto) : f_ribbons [.tup [.int 2, .int 2, .int 1, .int 1, .int 1], .int 2] S = .ok (.tup [.tup [.tup [.int 1, .int 1, .int 1, .int 1, .int 1], .int 1], .tup [.tup [.int 2, .int 2, .int 1], .int 1]], S) := by kernel_rfl
theorem cen_2_2_1_1_1_2 : f_center [.tup [.int 2, .int 2, .int 1, .int 1, .int 1], .int 2] [] = .ok (.tup [.int 1], []) := by kernel_rfl
theorem cut_2_2_1_1_1_3 (S : Sto) : f_l_cut [.tup [.int 2, .int 2, .int 1, .int 1, .int 1], .int 3] S = .ok (.lst [.tup [.tup [.int 2, .int 2], .int 2]], S) := by kernel_rfl
theorem rib_2_2_1_1_1_3 (S : Sto) : f_ribbons [.tup [.int 2, .int 2, .int 1, .int 1, .int 1], .int 3] S = .ok (.tup [.tup [.tup [.int 2, .int 2], .int 2]], S) := by kernel_rfl
theorem cen_2_2_1_1_1_3 : f_center [.tup [.int 2, .int 2, .int 1, .int 1, .int 1], .int 3] [] = .ok (.tup [.int 1], []) := by kernel_rfl
theorem cut_2_2_1_1_1_4 (S : Sto) : f_l_cut [.tup [.int 2, .int 2, .int 1, .int 1, .int 1], .int 4] S = .ok (.lst [], S) := by kernel_rfl
theorem rib_2_2_1_1_1_4 (S : Sto) : f_ribbons [.tup [.int 2, .int 2, .int 1, .int 1, .int 1], .int 4] S = .ok (.tup [], S) := by kernel_rfl
theorem cen_2_2_1_1_1_4 : f_center [.tup [.int 2, .int 2, .int 1, .int 1, .int 1], .int 4] [] = .ok (.tup [.int 2, .int 2, .int 1, .int 1, .int 1], []) := by kernel_rfl
theorem cut_2_2_1_1_1_5 (S : Sto) : f_l_cut [.tup [.int 2, .int 2, .int 1, .int 1, .int 1], .int 5] S = .ok (.lst [.tup [.tup [.int 2], .int 3]], S) := by kernel_rfl
theorem rib_2_2_1_1_1_5 (S : Sto) : f_ribbons [.tup [.int 2, .int 2, .int 1, .int 1, .int 1], .int 5] S = .ok (.tup [.tup [.tup [.int 2], .int 3]], S) := by kernel_rfl
theorem cen_2_2_1_1_1_5 : f_center [.tup [.int 2, .int 2, .int 1, .int 1, .int 1], .int 5] [] = .ok (.tup [.int 2], []) := by kernel_rfl
theorem cut_2_1_1_1_1_1_1 (S : Sto) : f_l_cut [.tup [.int 2, .int 1, .int 1, .int 1, .int 1, .int 1], .int 1] S = .ok (.lst [.tup [.tup [.int 1, .int 1, .int 1, .int 1, .int 1, .int 1], .int 0], .tup [.tup [.int 2, .int 1, .int 1, .int 1, .int 1], .int 0]], S) := by kernel_rfl
theorem rib_2_1_1_1_1_1_1 (S : Sto) : f_ribbons [.tup [.int 2, .int 1, .int 1, .int 1, .int 1, .int 1], .int 1] S = .ok (.tup [.tup [.tup [.int 1, .int 1, .int 1, .int 1, .int 1, .int 1], .int 0], .tup [.tup [.int 2, .int 1, .int 1, .int 1, .int 1], .int 0]], S) := by kernel_rfl
theorem cen_2_1_1_1_1_1_1 : f_center [.tup [.int 2, .int 1, .int 1, .int 1, .int 1, .int 1], .int 1] [] = .ok (.tup [], []) := by kernel_rfl
theorem cut_2_1_1_1_1_1_2 (S : Sto) : f_l_cut [.tup [.int 2, .int 1, .int 1, .int 1, .int 1, .int 1], .int 2] S = .ok (.lst [.tup [.tup [.int 2, .int 1, .int 1, .int 1], .int 1]], S) := by kernel_rfl
theorem rib_2_1_1_1_1_1_2 (S : Sto) : f_ribbons [.tup [.int 2, .int 1, .int 1, .int 1, .int 1, .int 1], .int 2] S = .ok (.tup [.tup [.tup [.int 2, .int 1, .int 1, .int 1], .int 1]], S) := by kernel_rfl
theorem cen_2_1_1_1_1_1_2 : f_center [.tup [.int 2, .int 1, .int 1, .int 1, .int 1, .int 1], .int 2] [] = .ok (.tup [.int 2, .int 1], []) := by kernel_rfl
theorem cut_2_1_1_1_1_1_3 (S : Sto) : f_l_cut [.tup [.int 2, .int 1, .int 1, .int 1, .int 1, .int 1], .int 3] S = .ok (.lst [.tup [.tup [.int 2, .int 1, .int 1], .int 2]], S) := by kernel_rfl
theorem rib_2_1_1_1_1_1_3 (S : Sto) : f_ribbons [.tup [.int 2, .int 1, .int 1, .int 1, .int 1, .int 1], .int 3] S = .ok (.tup [.tup [.tup [.int 2, .int 1, .int 1], .int 2]], S) := by kernel_rfl
theorem cen_2_1_1_1_1_1_3 : f_center [.tup [.int 2, .int 1, .int 1, .int 1, .int 1, .int 1], .int 3] [] = .ok (.tup [.int 2, .int 1, .int 1], []) := by kernel_rfl
theorem cut_2_1_1_1_1_1_4 (S : Sto) : f_l_cut [.tup [.int 2, .int 1, .int 1, .int 1, .int 1, .int 1], .int 4] S = .ok (.lst [.tup [.tup [.int 2, .int 1], .int 3]], S) := by kernel_rfl
theorem rib_2_1_1_1_1_1_4 (S : Sto) : f_ribbons [.tup [.int 2, .int 1, .int 1, .int 1, .int 1, .int 1], .int 4] S = .ok (.tup [.tup [.tup [.int 2, .int 1], .int 3]], S) := by kernel_rfl
theorem cen_2_1_1_1_1_1_4 : f_center [.tup [.int 2, .int 1, .int 1, .int 1, .int 1, .int 1], .int 4] [] = .ok (.tup [.int 2, .int 1], []) := by kernel_rfl
theorem cut_2_1_1_1_1_1_5 (S : Sto) : f_l_cut [.tup [.int 2, .int 1, .int 1, .int 1, .int 1, .int 1], .int 5] S = .ok (.lst [.tup [.tup [.int 2], .int 4]], S) := by kernel_rfl
theorem rib_2_1_1_1_1_1_5 (S : Sto) : f_ribbons [.tup [.int 2, .int 1, .int 1, .int 1, .int 1, .int 1], .int 5] S = .ok (.tup [.tup [.tup [.int 2], .int 4]], S) := by kernel_rfl
theorem cen_2_1_1_1_1_1_5 : f_center [.tup [.int 2, .int 1, .int 1, .int 1, .int 1, .int 1], .int 5] [] = .ok (.tup [.int 2], []) := by kernel_rfl
theorem cut_1_1_1_1_1_1_1_1 (S : Sto) : f_l_cut [.tup [.int 1, .int 1, .int 1, .int 1, .int 1, .int 1, .int 1], .int 1] S = .ok (.lst [.tup [.tup [.int 1, .int 1, .int 1, .int 1, .int 1, .int 1], .int 0]], S) := by kernel_rfl
theorem rib_1_1_1_1_1_1_1_1 (S : Sto) : f_ribbons [.tup [.int 1, .int 1, .int 1, .int 1, .int 1, .int 1, .int 1], .int 1] S = .ok (.tup [.tup [.tup [.int 1, .int 1, .int 1, .int 1, .int 1, .int 1], .int 0]], S) := by kernel_rfl
theorem cen_1_1_1_1_1_1_1_1 : f_center [.tup [.int 1, .int 1, .int 1, .int 1, .int 1, .int 1, .int 1], .int 1] [] = .ok (.tup [], []) := by kernel_rfl
theorem cut_1_1_1_1_1_1_1_2 (S : Sto) : f_l_cut [.tup [.int 1, .int 1, .int 1, .int 1, .int 1, .int 1, .int 1], .int 2] S = .ok (.lst [.tup [.tup [.int 1, .int 1, .int 1, .int 1, .int 1], .int 1]], S) := by kernel_rfl
theorem rib_1_1_1_1_1_1_1_2 (S : Sto) : f_ribbons [.tup [.int 1, .int 1, .int 1, .int 1, .int 1, .int 1, .int 1], .int 2] S = .ok (.tup [.tup [.tup [.int 1, .int 1, .int 1, .int 1, .int 1], .int 1]], S) := by kernel_rfl
theorem cen_1_1_1_1_1_1_1_2 : f_center [.tup [.int 1, .int 1, .int 1, .int 1, .int 1, .int 1, .int 1], .int 2] [] = .ok (.tup [.int 1], []) := by kernel_rfl
theorem cut_1_1_1_1_1_1_1_3 (S : Sto) : f_l_cut [.tup [.int 1, .int 1, .int 1, .int 1, .int 1, .int 1, .int 1], .int 3] S = .ok (.lst [.tup [.tup [.int 1, .int 1, .int 1, .int 1], .int 2]], S) := by kernel_rfl
theorem rib_1_1_1_1_1_1_1_3 (S : Sto) : f_ribbons [.tup [.int 1, .int 1, .int 1, .int 1, .int 1, .int 1, .int 1], .int 3] S = .ok (.tup [.tup [.tup [.int 1, .int 1, .int 1, .int 1], .int 2]], S) := by kernel_rfl
theorem cen_1_1_1_1_1_1_1_3 : f_center [.tup [.int 1, .int 1, .int 1, .int 1, .int 1, .int 1, .int 1], .int 3] [] = .ok (.tup [.int 1], []) := by kernel_rfl
theorem cut_1_1_1_1_1_1_1_4 (S : Sto) : f_l_cut [.tup [.int 1, .int 1, .int 1, .int 1, .int 1, .int 1, .int 1], .int 4] S = .ok (.lst [.tup [.tup [.int 1, .int 1, .int 1], .int 3]], S) := by kernel_rfl
theorem rib_1_1_1_1_1_1_1_4 (S : Sto) : f_ribbons [.tup [.int 1, .int 1, .int 1, .int 1, .int 1, .int 1, .int 1], .int 4] S = .ok (.tup [.tup [.tup [.int 1, .int 1, .int 1], .int 3]], S) := by kernel_rfl
theorem cen_1_1_1_1_1_1_1_4 : f_center [.tup [.int 1, .int 1, .int 1, .int 1, .int 1, .int 1, .int 1], .int 4] [] = .ok (.tup [.int 1, .int 1, .int 1], []) := by kernel_rfl
theorem cut_1_1_1_1_1_1_1_5 (S : Sto) : f_l_cut [.tup [.int 1, .int 1, .int 1, .int 1, .int 1, .int 1, .int 1], .int 5] S = .ok (.lst [.tup [.tup [.int 1, .int 1], .int 4]], S) := by kernel_rfl
theorem rib_1_1_1_1_1_1_1_5 (S : Sto) : f_ribbons [.tup [.int 1, .int 1, .int 1, .int 1, .int 1, .int 1, .int 1], .int 5] S = .ok (.tup [.tup [.tup [.int 1, .int 1], .int 4]], S) := by kernel_rfl
theorem cen_1_1_1_1_1_1_1_5 : f_center [.tup [.int 1, .int 1, .int 1, .int 1, .int 1, .int 1, .int 1], .int 5] [] = .ok (.tup [.int 1, .int 1], []) := by kernel_rfl
end K60
set_option Elab.async false
set_option maxRecDepth 100000
set_option maxHeartbeats 0
namespace K60
open PySem PySem.Spec PyProof.Rows L2 J
theorem rp_e : pRpr false (.lst [tI [], tI []]) (.lst [tI [], tI []]) = some (.bl false) := by kernel_rfl
theorem rp_1 : pRpr false (.lst [tI [1], tI [1]]) (.lst [tI [1], tI [1]]) = some (.bl false) := by kernel_rfl
theorem rp_1_1 : pRpr false (.lst [tI [1, 1], tI [1, 1]]) (.lst [tI [1, 1], tI [1, 1]]) = some (.bl false) := by kernel_rfl
theorem rp_1_1_1 : pRpr false (.lst [tI [1, 1, 1], tI [1, 1, 1]]) (.lst [tI [1, 1, 1], tI [1, 1, 1]]) = some (.bl false) := by kernel_rfl
theorem rp_1_1_1_1 : pRpr false (.lst [tI [1, 1, 1, 1], tI [1, 1, 1, 1]]) (.lst [tI [1, 1, 1, 1], tI [1, 1, 1, 1]]) = some (.bl false) := by kernel_rfl
theorem rp_2 : pRpr false (.lst [tI [2], tI [2]]) (.lst [tI [2], tI [2]]) = some (.bl false) := by kernel_rfl
theorem rp_2_1 : pRpr false (.lst [tI [2, 1], tI [2, 1]]) (.lst [tI [2, 1], tI [2, 1]]) = some (.bl false) := by kernel_rfl
theorem rp_2_1_1 : pRpr false (.lst [tI [2, 1, 1], tI [2, 1, 1]]) (.lst [tI [2, 1, 1], tI [2, 1, 1]]) = some (.bl false) := by kernel_rfl
theorem rp_2_1_1_1 : pRpr false (.lst [tI [2, 1, 1, 1], tI [2, 1, 1, 1]]) (.lst [tI [2, 1, 1, 1], tI [2, 1, 1, 1]]) = some (.bl false) := by kernel_rfl
theorem rp_2_1_1_1_1 : pRpr false (.lst [tI [2, 1, 1, 1, 1], tI [2, 1, 1, 1, 1]]) (.lst [tI [2, 1, 1, 1, 1], tI [2, 1, 1, 1, 1]]) = some (.bl false) := by kernel_rfl
theorem rp_2_2 : pRpr false (.lst [tI [2, 2], tI [2, 2]]) (.lst [tI [2, 2], tI [2, 2]]) = some (.bl false) := by kernel_rfl
theorem rp_2_2_1 : pRpr false (.lst [tI [2, 2, 1], tI [2, 2, 1]]) (.lst [tI [2, 2, 1], tI [2, 2, 1]]) = some (.bl false) := by kernel_rfl
theorem rp_2_2_1_1 : pRpr false (.lst [tI [2, 2, 1, 1], tI [2, 2, 1, 1]]) (.lst [tI [2, 2, 1, 1], tI [2, 2, 1, 1]]) = some (.bl false) := by kernel_rfl
theorem rp_2_2_1_1_1 : pRpr false (.lst [tI [2, 2, 1, 1, 1], tI [2, 2, 1, 1, 1]]) (.lst [tI [2, 2, 1, 1, 1], tI [2, 2, 1, 1, 1]]) = some (.bl false) := by kernel_rfl
theorem rp_2_2_2 : pRpr false (.lst [tI [2, 2, 2], tI [2, 2, 2]]) (.lst [tI [2, 2, 2], tI [2, 2, 2]]) = some (.bl false) := by kernel_rfl
theorem rp_3 : pRpr false (.lst [tI [3], tI [3]]) (.lst [tI [3], tI [3]]) = some (.bl false) := by kernel_rfl
theorem rp_3_1 : pRpr false (.lst [tI [3, 1], tI [3, 1]]) (.lst [tI [3, 1], tI [3, 1]]) = some (.bl false) := by kernel_rfl
theorem rp_3_1_1 : pRpr false (.lst [tI [3, 1, 1], tI [3, 1, 1]]) (.lst [tI [3, 1, 1], tI [3, 1, 1]]) = some (.bl false) := by kernel_rfl
theorem rp_3_1_1_1 : pRpr false (.lst [tI [3, 1, 1, 1], tI [3, 1, 1, 1]]) (.lst [tI [3, 1, 1, 1], tI [3, 1, 1, 1]]) = some (.bl false) := by kernel_rfl
theorem rp_3_1_1_1_1 : pRpr false (.lst [tI [3, 1, 1, 1, 1], tI [3, 1, 1, 1, 1]]) (.lst [tI [3, 1, 1, 1, 1], tI [3, 1, 1, 1, 1]]) = some (.bl false) := by kernel_rfl
theorem rp_3_2 : pRpr false (.lst [tI [3, 2], tI [3, 2]]) (.lst [tI [3, 2], tI [3, 2]]) = some (.bl false) := by kernel_rfl
theorem rp_3_2_1 : pRpr false (.lst [tI [3, 2, 1], tI [3, 2, 1]]) (.lst [tI [3, 2, 1], tI [3, 2, 1]]) = some (.bl false) := by kernel_rfl
theorem rp_3_2_1_1 : pRpr false (.lst [tI [3, 2, 1, 1], tI [3, 2, 1, 1]]) (.lst [tI [3, 2, 1, 1], tI [3, 2, 1, 1]]) = some (.bl false) := by kernel_rfl
theorem rp_3_3 : pRpr false (.lst [tI [3, 3], tI [3, 3]]) (.lst [tI [3, 3], tI [3, 3]]) = some (.bl false) := by kernel_rfl
theorem rp_4 : pRpr false (.lst [tI [4], tI [4]]) (.lst [tI [4], tI [4]]) = some (.bl false) := by kernel_rfl
theorem rp_4_1 : pRpr false (.lst [tI [4, 1], tI [4, 1]]) (.lst [tI [4, 1], tI [4, 1]]) = some (.bl false) := by kernel_rfl
theorem rp_4_1_1 : pRpr false (.lst [tI [4, 1, 1], tI [4, 1, 1]]) (.lst [tI [4, 1, 1], tI [4, 1, 1]]) = some (.bl false) := by kernel_rfl
theorem rp_4_1_1_1 : pRpr false (.lst [tI [4, 1, 1, 1], tI [4, 1, 1, 1]]) (.lst [tI [4, 1, 1, 1], tI [4, 1, 1, 1]]) = some (.bl false) := by kernel_rfl
theorem rp_4_2 : pRpr false (.lst [tI [4, 2], tI [4, 2]]) (.lst [tI [4, 2], tI [4, 2]]) = some (.bl false) := by kernel_rfl
theorem rp_4_2_1 : pRpr false (.lst [tI [4, 2, 1], tI [4, 2, 1]]) (.lst [tI [4, 2, 1], tI [4, 2, 1]]) = some (.bl false) := by kernel_rfl
theorem rp_5_1 : pRpr false (.lst [tI [5, 1], tI [5, 1]]) (.lst [tI [5, 1], tI [5, 1]]) = some (.bl false) := by kernel_rfl
theorem rp_5_1_1 : pRpr false (.lst [tI [5, 1, 1], tI [5, 1, 1]]) (.lst [tI [5, 1, 1], tI [5, 1, 1]]) = some (.bl false) := by kernel_rfl
theorem rp_5_2 : pRpr false (.lst [tI [5, 2], tI [5, 2]]) (.lst [tI [5, 2], tI [5, 2]]) = some (.bl false) := by kernel_rfl
theorem tv_e : tI [] = .tup [] := rfl
theorem sh_e : Sh [] := Sh.of (by decide)
theorem ti_e : tilt [] = [] := by decide
theorem tv_1 : tI [1] = .tup [.int 1] := rfl
theorem sh_1 : Sh [1] := Sh.of (by decide)
theorem ti_1 : tilt [1] = [1] := by decide
theorem tv_2 : tI [2] = .tup [.int 2] := rfl
theorem sh_2 : Sh [2] := Sh.of (by decide)
theorem ti_2 : tilt [2] = [1, 1] := by decide
theorem tv_1_1 : tI [1, 1] = .tup [.int 1, .int 1] := rfl
theorem sh_1_1 : Sh [1, 1] := Sh.of (by decide)
theorem ti_1_1 : tilt [1, 1] = [2] := by decide
theorem tv_3 : tI [3] = .tup [.int 3] := rfl
theorem sh_3 : Sh [3] := Sh.of (by decide)
theorem ti_3 : tilt [3] = [1, 1, 1] := by decide
theorem tv_2_1 : tI [2, 1] = .tup [.int 2, .int 1] := rfl
theorem sh_2_1 : Sh [2, 1] := Sh.of (by decide)
theorem ti_2_1 : tilt [2, 1] = [2, 1] := by decide
theorem tv_1_1_1 : tI [1, 1, 1] = .tup [.int 1, .int 1, .int 1] := rfl
theorem sh_1_1_1 : Sh [1, 1, 1] := Sh.of (by decide)
theorem ti_1_1_1 : tilt [1, 1, 1] = [3] := by decide
theorem tv_4 : tI [4] = .tup [.int 4] := rfl
theorem sh_4 : Sh [4] := Sh.of (by decide)
theorem ti_4 : tilt [4] = [1, 1, 1, 1] := by decide
theorem tv_3_1 : tI [3, 1] = .tup [.int 3, .int 1] := rfl
theorem sh_3_1 : Sh [3, 1] := Sh.of (by decide)
theorem ti_3_1 : tilt [3, 1] = [2, 1, 1] := by decide
theorem tv_2_2 : tI [2, 2] = .tup [.int 2, .int 2] := rfl
theorem sh_2_2 : Sh [2, 2] := Sh.of (by decide)
theorem ti_2_2 : tilt [2, 2] = [2, 2] := by decide
theorem tv_2_1_1 : tI [2, 1, 1] = .tup [.int 2, .int 1, .int 1] := rfl
theorem sh_2_1_1 : Sh [2, 1, 1] := Sh.of (by decide)
theorem ti_2_1_1 : tilt [2, 1, 1] = [3, 1] := by decide
theorem tv_1_1_1_1 : tI [1, 1, 1, 1] = .tup [.int 1, .int 1, .int 1, .int 1] := rfl
theorem sh_1_1_1_1 : Sh [1, 1, 1, 1] := Sh.of (by decide)
theorem ti_1_1_1_1 : tilt [1, 1, 1, 1] = [4] := by decide
theorem tv_5 : tI [5] = .tup [.int 5] := rfl
theorem sh_5 : Sh [5] := Sh.of (by decide)
theorem ti_5 : tilt [5] = [1, 1, 1, 1, 1] := by decide
theorem tv_4_1 : tI [4, 1] = .tup [.int 4, .int 1] := rfl
theorem sh_4_1 : Sh [4, 1] := Sh.of (by decide)
theorem ti_4_1 : tilt [4, 1] = [2, 1, 1, 1] := by decide
theorem tv_3_2 : tI [3, 2] = .tup [.int 3, .int 2] := rfl
theorem sh_3_2 : Sh [3, 2] := Sh.of (by decide)
theorem ti_3_2 : tilt [3, 2] = [2, 2, 1] := by decide
theorem tv_3_1_1 : tI [3, 1, 1] = .tup [.int 3, .int 1, .int 1] := rfl
theorem sh_3_1_1 : Sh [3, 1, 1] := Sh.of (by decide)
theorem ti_3_1_1 : tilt [3, 1, 1] = [3, 1, 1] := by decide
theorem tv_2_2_1 : tI [2, 2, 1] = .tup [.int 2, .int 2, .int 1] := rfl
theorem sh_2_2_1 : Sh [2, 2, 1] := Sh.of (by decide)
theorem ti_2_2_1 : tilt [2, 2, 1] = [3, 2] := by decide
theorem tv_2_1_1_1 : tI [2, 1, 1, 1] = .tup [.int 2, .int 1, .int 1, .int 1] := rfl
theorem sh_2_1_1_1 : Sh [2, 1, 1, 1] := Sh.of (by decide)
theorem ti_2_1_1_1 : tilt [2, 1, 1, 1] = [4, 1] := by decide
theorem tv_1_1_1_1_1 : tI [1, 1, 1, 1, 1] = .tup [.int 1, .int 1, .int 1, .int 1, .int 1] := rfl
theorem sh_1_1_1_1_1 : Sh [1, 1, 1, 1, 1] := Sh.of (by decide)
theorem ti_1_1_1_1_1 : tilt [1, 1, 1, 1, 1] = [5] := by decide
theorem tv_6 : tI [6] = .tup [.int 6] := rfl
theorem sh_6 : Sh [6] := Sh.of (by decide)
theorem ti_6 : tilt [6] = [1, 1, 1, 1, 1, 1] := by decide
theorem tv_5_1 : tI [5, 1] = .tup [.int 5, .int 1] := rfl
theorem sh_5_1 : Sh [5, 1] := Sh.of (by decide)
theorem ti_5_1 : tilt [5, 1] = [2, 1, 1, 1, 1] := by decide
theorem tv_4_2 : tI [4, 2] = .tup [.int 4, .int 2] := rfl
theorem sh_4_2 : Sh [4, 2] := Sh.of (by decide)
theorem ti_4_2 : tilt [4, 2] = [2, 2, 1, 1] := by decide
theorem tv_4_1_1 : tI [4, 1, 1] = .tup [.int 4, .int 1, .int 1] := rfl
theorem sh_4_1_1 : Sh [4, 1, 1] := Sh.of (by decide)
theorem ti_4_1_1 : tilt [4, 1, 1] = [3, 1, 1, 1] := by decide
theorem tv_3_3 : tI [3, 3] = .tup [.int 3, .int 3] := rfl
theorem sh_3_3 : Sh [3, 3] := Sh.of (by decide)
theorem ti_3_3 : tilt [3, 3] = [2, 2, 2] := by decide
theorem tv_3_2_1 : tI [3, 2, 1] = .tup [.int 3, .int 2, .int 1] := rfl
theorem sh_3_2_1 : Sh [3, 2, 1] := Sh.of (by decide)
theorem ti_3_2_1 : tilt [3, 2, 1] = [3, 2, 1] := by decide
theorem tv_3_1_1_1 : tI [3, 1, 1, 1] = .tup [.int 3, .int 1, .int 1, .int 1] := rfl
theorem sh_3_1_1_1 : Sh [3, 1, 1, 1] := Sh.of (by decide)
theorem ti_3_1_1_1 : tilt [3, 1, 1, 1] = [4, 1, 1] := by decide
theorem tv_2_2_2 : tI [2, 2, 2] = .tup [.int 2, .int 2, .int 2] := rfl
theorem sh_2_2_2 : Sh [2, 2, 2] := Sh.of (by decide)
theorem ti_2_2_2 : tilt [2, 2, 2] = [3, 3] := by decide
theorem tv_2_2_1_1 : tI [2, 2, 1, 1] = .tup [.int 2, .int 2, .int 1, .int 1] := rfl
theorem sh_2_2_1_1 : Sh [2, 2, 1, 1] := Sh.of (by decide)
theorem ti_2_2_1_1 : tilt [2, 2, 1, 1] = [4, 2] := by decide
theorem tv_2_1_1_1_1 : tI [2, 1, 1, 1, 1] = .tup [.int 2, .int 1, .int 1, .int 1, .int 1] := rfl
theorem sh_2_1_1_1_1 : Sh [2, 1, 1, 1, 1] := Sh.of (by decide)
theorem ti_2_1_1_1_1 : tilt [2, 1, 1, 1, 1] = [5, 1] := by decide
theorem tv_1_1_1_1_1_1 : tI [1, 1, 1, 1, 1, 1] = .tup [.int 1, .int 1, .int 1, .int 1, .int 1, .int 1] := rfl
theorem sh_1_1_1_1_1_1 : Sh [1, 1, 1, 1, 1, 1] := Sh.of (by decide)
theorem ti_1_1_1_1_1_1 : tilt [1, 1, 1, 1, 1, 1] = [6] := by decide
theorem tv_7 : tI [7] = .tup [.int 7] := rfl
theorem sh_7 : Sh [7] := Sh.of (by decide)
theorem ti_7 : tilt [7] = [1, 1, 1, 1, 1, 1, 1] := by decide
theorem tv_6_1 : tI [6, 1] = .tup [.int 6, .int 1] := rfl
theorem sh_6_1 : Sh [6, 1] := Sh.of (by decide)
theorem ti_6_1 : tilt [6, 1] = [2, 1, 1, 1, 1, 1] := by decide
theorem tv_5_2 : tI [5, 2] = .tup [.int 5, .int 2] := rfl
theorem sh_5_2 : Sh [5, 2] := Sh.of (by decide)
theorem ti_5_2 : tilt [5, 2] = [2, 2, 1, 1, 1] := by decide
theorem tv_5_1_1 : tI [5, 1, 1] = .tup [.int 5, .int 1, .int 1] := rfl
theorem sh_5_1_1 : Sh [5, 1, 1] := Sh.of (by decide)
theorem ti_5_1_1 : tilt [5, 1, 1] = [3, 1, 1, 1, 1] := by decide
theorem tv_4_3 : tI [4, 3] = .tup [.int 4, .int 3] := rfl
theorem sh_4_3 : Sh [4, 3] := Sh.of (by decide)
theorem ti_4_3 : tilt [4, 3] = [2, 2, 2, 1] := by decide
theorem tv_4_2_1 : tI [4, 2, 1] = .tup [.int 4, .int 2, .int 1] := rfl
theorem sh_4_2_1 : Sh [4, 2, 1] := Sh.of (by decide)
theorem ti_4_2_1 : tilt [4, 2, 1] = [3, 2, 1, 1] := by decide
theorem tv_4_1_1_1 : tI [4, 1, 1, 1] = .tup [.int 4, .int 1, .int 1, .int 1] := rfl
theorem sh_4_1_1_1 : Sh [4, 1, 1, 1] := Sh.of (by decide)
theorem ti_4_1_1_1 : tilt [4, 1, 1, 1] = [4, 1, 1, 1] := by decide
theorem tv_3_3_1 : tI [3, 3, 1] = .tup [.int 3, .int 3, .int 1] := rfl
theorem sh_3_3_1 : Sh [3, 3, 1] := Sh.of (by decide)
theorem ti_3_3_1 : tilt [3, 3, 1] = [3, 2, 2] := by decide
theorem tv_3_2_2 : tI [3, 2, 2] = .tup [.int 3, .int 2, .int 2] := rfl
theorem sh_3_2_2 : Sh [3, 2, 2] := Sh.of (by decide)
theorem ti_3_2_2 : tilt [3, 2, 2] = [3, 3, 1] := by decide
theorem tv_3_2_1_1 : tI [3, 2, 1, 1] = .tup [.int 3, .int 2, .int 1, .int 1] := rfl
theorem sh_3_2_1_1 : Sh [3, 2, 1, 1] := Sh.of (by decide)
theorem ti_3_2_1_1 : tilt [3, 2, 1, 1] = [4, 2, 1] := by decide
theorem tv_3_1_1_1_1 : tI [3, 1, 1, 1, 1] = .tup [.int 3, .int 1, .int 1, .int 1, .int 1] := rfl
theorem sh_3_1_1_1_1 : Sh [3, 1, 1, 1, 1] := Sh.of (by decide)
theorem ti_3_1_1_1_1 : tilt [3, 1, 1, 1, 1] = [5, 1, 1] := by decide
theorem tv_2_2_2_1 : tI [2, 2, 2, 1] = .tup [.int 2, .int 2, .int 2, .int 1] := rfl
theorem sh_2_2_2_1 : Sh [2, 2, 2, 1] := Sh.of (by decide)
theorem ti_2_2_2_1 : tilt [2, 2, 2, 1] = [4, 3] := by decide
theorem tv_2_2_1_1_1 : tI [2, 2, 1, 1, 1] = .tup [.int 2, .int 2, .int 1, .int 1, .int 1] := rfl
theorem sh_2_2_1_1_1 : Sh [2, 2, 1, 1, 1] := Sh.of (by decide)
theorem ti_2_2_1_1_1 : tilt [2, 2, 1, 1, 1] = [5, 2] := by decide
theorem tv_2_1_1_1_1_1 : tI [2, 1, 1, 1, 1, 1] = .tup [.int 2, .int 1, .int 1, .int 1, .int 1, .int 1] := rfl
theorem sh_2_1_1_1_1_1 : Sh [2, 1, 1, 1, 1, 1] := Sh.of (by decide)
theorem ti_2_1_1_1_1_1 : tilt [2, 1, 1, 1, 1, 1] = [6, 1] := by decide
theorem tv_1_1_1_1_1_1_1 : tI [1, 1, 1, 1, 1, 1, 1] = .tup [.int 1, .int 1, .int 1, .int 1, .int 1, .int 1, .int 1] := rfl
theorem sh_1_1_1_1_1_1_1 : Sh [1, 1, 1, 1, 1, 1, 1] := Sh.of (by decide)
theorem ti_1_1_1_1_1_1_1 : tilt [1, 1, 1, 1, 1, 1, 1] = [7] := by decide
theorem fin_e_1 : Fin 1 [] := Fin.of (mi := 1) rfl tv_e tv_e tv_e tv_e cut_e_1 rib_e_1 cen_e_1 cen_e_1 ti_e ti_e sh_e rp_e
theorem fin_1_1 : Fin 1 [1] := Fin.of (mi := 1) rfl tv_1 tv_1 tv_e tv_e cut_1_1 rib_1_1 cen_1_1 cen_1_1 ti_1 ti_e sh_1 rp_e
theorem fin_2_1 : Fin 1 [2] := Fin.of (mi := 1) rfl tv_2 tv_1_1 tv_e tv_e cut_2_1 rib_2_1 cen_2_1 cen_1_1_1 ti_2 ti_e sh_1_1 rp_e
theorem fin_1_1_1 : Fin 1 [1, 1] := Fin.of (mi := 1) rfl tv_1_1 tv_2 tv_e tv_e cut_1_1_1 rib_1_1_1 cen_1_1_1 cen_2_1 ti_1_1 ti_e sh_2 rp_e
theorem fin_3_1 : Fin 1 [3] := Fin.of (mi := 1) rfl tv_3 tv_1_1_1 tv_e tv_e cut_3_1 rib_3_1 cen_3_1 cen_1_1_1_1 ti_3 ti_e sh_1_1_1 rp_e
theorem fin_2_1_1 : Fin 1 [2, 1] := Fin.of (mi := 1) rfl tv_2_1 tv_2_1 tv_e tv_e cut_2_1_1 rib_2_1_1 cen_2_1_1 cen_2_1_1 ti_2_1 ti_e sh_2_1 rp_e
theorem fin_1_1_1_1 : Fin 1 [1, 1, 1] := Fin.of (mi := 1) rfl tv_1_1_1 tv_3 tv_e tv_e cut_1_1_1_1 rib_1_1_1_1 cen_1_1_1_1 cen_3_1 ti_1_1_1 ti_e sh_3 rp_e
theorem fin_4_1 : Fin 1 [4] := Fin.of (mi := 1) rfl tv_4 tv_1_1_1_1 tv_e tv_e cut_4_1 rib_4_1 cen_4_1 cen_1_1_1_1_1 ti_4 ti_e sh_1_1_1_1 rp_e
theorem fin_3_1_1 : Fin 1 [3, 1] := Fin.of (mi := 1) rfl tv_3_1 tv_2_1_1 tv_e tv_e cut_3_1_1 rib_3_1_1 cen_3_1_1 cen_2_1_1_1 ti_3_1 ti_e sh_2_1_1 rp_e
theorem fin_2_2_1 : Fin 1 [2, 2] := Fin.of (mi := 1) rfl tv_2_2 tv_2_2 tv_e tv_e cut_2_2_1 rib_2_2_1 cen_2_2_1 cen_2_2_1 ti_2_2 ti_e sh_2_2 rp_e
theorem fin_2_1_1_1 : Fin 1 [2, 1, 1] := Fin.of (mi := 1) rfl tv_2_1_1 tv_3_1 tv_e tv_e cut_2_1_1_1 rib_2_1_1_1 cen_2_1_1_1 cen_3_1_1 ti_2_1_1 ti_e sh_3_1 rp_e
theorem fin_1_1_1_1_1 : Fin 1 [1, 1, 1, 1] := Fin.of (mi := 1) rfl tv_1_1_1_1 tv_4 tv_e tv_e cut_1_1_1_1_1 rib_1_1_1_1_1 cen_1_1_1_1_1 cen_4_1 ti_1_1_1_1 ti_e sh_4 rp_e
theorem fin_5_1 : Fin 1 [5] := Fin.of (mi := 1) rfl tv_5 tv_1_1_1_1_1 tv_e tv_e cut_5_1 rib_5_1 cen_5_1 cen_1_1_1_1_1_1 ti_5 ti_e sh_1_1_1_1_1 rp_e
theorem fin_4_1_1 : Fin 1 [4, 1] := Fin.of (mi := 1) rfl tv_4_1 tv_2_1_1_1 tv_e tv_e cut_4_1_1 rib_4_1_1 cen_4_1_1 cen_2_1_1_1_1 ti_4_1 ti_e sh_2_1_1_1 rp_e
theorem fin_3_2_1 : Fin 1 [3, 2] := Fin.of (mi := 1) rfl tv_3_2 tv_2_2_1 tv_e tv_e cut_3_2_1 rib_3_2_1 cen_3_2_1 cen_2_2_1_1 ti_3_2 ti_e sh_2_2_1 rp_e
theorem fin_3_1_1_1 : Fin 1 [3, 1, 1] := Fin.of (mi := 1) rfl tv_3_1_1 tv_3_1_1 tv_e tv_e cut_3_1_1_1 rib_3_1_1_1 cen_3_1_1_1 cen_3_1_1_1 ti_3_1_1 ti_e sh_3_1_1 rp_e
theorem fin_2_2_1_1 : Fin 1 [2, 2, 1] := Fin.of (mi := 1) rfl tv_2_2_1 tv_3_2 tv_e tv_e cut_2_2_1_1 rib_2_2_1_1 cen_2_2_1_1 cen_3_2_1 ti_2_2_1 ti_e sh_3_2 rp_e
theorem fin_2_1_1_1_1 : Fin 1 [2, 1, 1, 1] := Fin.of (mi := 1) rfl tv_2_1_1_1 tv_4_1 tv_e tv_e cut_2_1_1_1_1 rib_2_1_1_1_1 cen_2_1_1_1_1 cen_4_1_1 ti_2_1_1_1 ti_e sh_4_1 rp_e
theorem fin_1_1_1_1_1_1 : Fin 1 [1, 1, 1, 1, 1] := Fin.of (mi := 1) rfl tv_1_1_1_1_1 tv_5 tv_e tv_e cut_1_1_1_1_1_1 rib_1_1_1_1_1_1 cen_1_1_1_1_1_1 cen_5_1 ti_1_1_1_1_1 ti_e sh_5 rp_e
theorem fin_6_1 : Fin 1 [6] := Fin.of (mi := 1) rfl tv_6 tv_1_1_1_1_1_1 tv_e tv_e cut_6_1 rib_6_1 cen_6_1 cen_1_1_1_1_1_1_1 ti_6 ti_e sh_1_1_1_1_1_1 rp_e
theorem fin_5_1_1 : Fin 1 [5, 1] := Fin.of (mi := 1) rfl tv_5_1 tv_2_1_1_1_1 tv_e tv_e cut_5_1_1 rib_5_1_1 cen_5_1_1 cen_2_1_1_1_1_1 ti_5_1 ti_e sh_2_1_1_1_1 rp_e
theorem fin_4_2_1 : Fin 1 [4, 2] := Fin.of (mi := 1) rfl tv_4_2 tv_2_2_1_1 tv_e tv_e cut_4_2_1 rib_4_2_1 cen_4_2_1 cen_2_2_1_1_1 ti_4_2 ti_e sh_2_2_1_1 rp_e
theorem fin_4_1_1_1 : Fin 1 [4, 1, 1] := Fin.of (mi := 1) rfl tv_4_1_1 tv_3_1_1_1 tv_e tv_e cut_4_1_1_1 rib_4_1_1_1 cen_4_1_1_1 cen_3_1_1_1_1 ti_4_1_1 ti_e sh_3_1_1_1 rp_e
theorem fin_3_3_1 : Fin 1 [3, 3] := Fin.of (mi := 1) rfl tv_3_3 tv_2_2_2 tv_e tv_e cut_3_3_1 rib_3_3_1 cen_3_3_1 cen_2_2_2_1 ti_3_3 ti_e sh_2_2_2 rp_e
theorem fin_3_2_1_1 : Fin 1 [3, 2, 1] := Fin.of (mi := 1) rfl tv_3_2_1 tv_3_2_1 tv_e tv_e cut_3_2_1_1 rib_3_2_1_1 cen_3_2_1_1 cen_3_2_1_1 ti_3_2_1 ti_e sh_3_2_1 rp_e
theorem fin_3_1_1_1_1 : Fin 1 [3, 1, 1, 1] := Fin.of (mi := 1) rfl tv_3_1_1_1 tv_4_1_1 tv_e tv_e cut_3_1_1_1_1 rib_3_1_1_1_1 cen_3_1_1_1_1 cen_4_1_1_1 ti_3_1_1_1 ti_e sh_4_1_1 rp_e
theorem fin_2_2_2_1 : Fin 1 [2, 2, 2] := Fin.of (mi := 1) rfl tv_2_2_2 tv_3_3 tv_e tv_e cut_2_2_2_1 rib_2_2_2_1 cen_2_2_2_1 cen_3_3_1 ti_2_2_2 ti_e sh_3_3 rp_e
theorem fin_2_2_1_1_1 : Fin 1 [2, 2, 1, 1] := Fin.of (mi := 1) rfl tv_2_2_1_1 tv_4_2 tv_e tv_e cut_2_2_1_1_1 rib_2_2_1_1_1 cen_2_2_1_1_1 cen_4_2_1 ti_2_2_1_1 ti_e sh_4_2 rp_e
theorem fin_2_1_1_1_1_1 : Fin 1 [2, 1, 1, 1, 1] := Fin.of (mi := 1) rfl tv_2_1_1_1_1 tv_5_1 tv_e tv_e cut_2_1_1_1_1_1 rib_2_1_1_1_1_1 cen_2_1_1_1_1_1 cen_5_1_1 ti_2_1_1_1_1 ti_e sh_5_1 rp_e
theorem fin_1_1_1_1_1_1_1 : Fin 1 [1, 1, 1, 1, 1, 1] := Fin.of (mi := 1) rfl tv_1_1_1_1_1_1 tv_6 tv_e tv_e cut_1_1_1_1_1_1_1 rib_1_1_1_1_1_1_1 cen_1_1_1_1_1_1_1 cen_6_1 ti_1_1_1_1_1_1 ti_e sh_6 rp_e
theorem fin_7_1 : Fin 1 [7] := Fin.of (mi := 1) rfl tv_7 tv_1_1_1_1_1_1_1 tv_e tv_e cut_7_1 rib_7_1 cen_7_1 cen_1_1_1_1_1_1_1_1 ti_7 ti_e sh_1_1_1_1_1_1_1 rp_e
theorem fin_6_1_1 : Fin 1 [6, 1] := Fin.of (mi := 1) rfl tv_6_1 tv_2_1_1_1_1_1 tv_e tv_e cut_6_1_1 rib_6_1_1 cen_6_1_1 cen_2_1_1_1_1_1_1 ti_6_1 ti_e sh_2_1_1_1_1_1 rp_e
theorem fin_5_2_1 : Fin 1 [5, 2] := Fin.of (mi := 1) rfl tv_5_2 tv_2_2_1_1_1 tv_e tv_e cut_5_2_1 rib_5_2_1 cen_5_2_1 cen_2_2_1_1_1_1 ti_5_2 ti_e sh_2_2_1_1_1 rp_e
theorem fin_5_1_1_1 : Fin 1 [5, 1, 1] := Fin.of (mi := 1) rfl tv_5_1_1 tv_3_1_1_1_1 tv_e tv_e cut_5_1_1_1 rib_5_1_1_1 cen_5_1_1_1 cen_3_1_1_1_1_1 ti_5_1_1 ti_e sh_3_1_1_1_1 rp_e
theorem fin_4_3_1 : Fin 1 [4, 3] := Fin.of (mi := 1) rfl tv_4_3 tv_2_2_2_1 tv_e tv_e cut_4_3_1 rib_4_3_1 cen_4_3_1 cen_2_2_2_1_1 ti_4_3 ti_e sh_2_2_2_1 rp_e
theorem fin_4_2_1_1 : Fin 1 [4, 2, 1] := Fin.of (mi := 1) rfl tv_4_2_1 tv_3_2_1_1 tv_e tv_e cut_4_2_1_1 rib_4_2_1_1 cen_4_2_1_1 cen_3_2_1_1_1 ti_4_2_1 ti_e sh_3_2_1_1 rp_e
theorem fin_4_1_1_1_1 : Fin 1 [4, 1, 1, 1] := Fin.of (mi := 1) rfl tv_4_1_1_1 tv_4_1_1_1 tv_e tv_e cut_4_1_1_1_1 rib_4_1_1_1_1 cen_4_1_1_1_1 cen_4_1_1_1_1 ti_4_1_1_1 ti_e sh_4_1_1_1 rp_e
theorem fin_3_3_1_1 : Fin 1 [3, 3, 1] := Fin.of (mi := 1) rfl tv_3_3_1 tv_3_2_2 tv_e tv_e cut_3_3_1_1 rib_3_3_1_1 cen_3_3_1_1 cen_3_2_2_1 ti_3_3_1 ti_e sh_3_2_2 rp_e
theorem fin_3_2_2_1 : Fin 1 [3, 2, 2] := Fin.of (mi := 1) rfl tv_3_2_2 tv_3_3_1 tv_e tv_e cut_3_2_2_1 rib_3_2_2_1 cen_3_2_2_1 cen_3_3_1_1 ti_3_2_2 ti_e sh_3_3_1 rp_e
theorem fin_3_2_1_1_1 : Fin 1 [3, 2, 1, 1] := Fin.of (mi := 1) rfl tv_3_2_1_1 tv_4_2_1 tv_e tv_e cut_3_2_1_1_1 rib_3_2_1_1_1 cen_3_2_1_1_1 cen_4_2_1_1 ti_3_2_1_1 ti_e sh_4_2_1 rp_e
theorem fin_3_1_1_1_1_1 : Fin 1 [3, 1, 1, 1, 1] := Fin.of (mi := 1) rfl tv_3_1_1_1_1 tv_5_1_1 tv_e tv_e cut_3_1_1_1_1_1 rib_3_1_1_1_1_1 cen_3_1_1_1_1_1 cen_5_1_1_1 ti_3_1_1_1_1 ti_e sh_5_1_1 rp_e
theorem fin_2_2_2_1_1 : Fin 1 [2, 2, 2, 1] := Fin.of (mi := 1) rfl tv_2_2_2_1 tv_4_3 tv_e tv_e cut_2_2_2_1_1 rib_2_2_2_1_1 cen_2_2_2_1_1 cen_4_3_1 ti_2_2_2_1 ti_e sh_4_3 rp_e
theorem fin_2_2_1_1_1_1 : Fin 1 [2, 2, 1, 1, 1] := Fin.of (mi := 1) rfl tv_2_2_1_1_1 tv_5_2 tv_e tv_e cut_2_2_1_1_1_1 rib_2_2_1_1_1_1 cen_2_2_1_1_1_1 cen_5_2_1 ti_2_2_1_1_1 ti_e sh_5_2 rp_e
theorem fin_2_1_1_1_1_1_1 : Fin 1 [2, 1, 1, 1, 1, 1] := Fin.of (mi := 1) rfl tv_2_1_1_1_1_1 tv_6_1 tv_e tv_e cut_2_1_1_1_1_1_1 rib_2_1_1_1_1_1_1 cen_2_1_1_1_1_1_1 cen_6_1_1 ti_2_1_1_1_1_1 ti_e sh_6_1 rp_e
theorem fin_1_1_1_1_1_1_1_1 : Fin 1 [1, 1, 1, 1, 1, 1, 1] := Fin.of (mi := 1) rfl tv_1_1_1_1_1_1_1 tv_7 tv_e tv_e cut_1_1_1_1_1_1_1_1 rib_1_1_1_1_1_1_1_1 cen_1_1_1_1_1_1_1_1 cen_7_1 ti_1_1_1_1_1_1_1 ti_e sh_7 rp_e
theorem fins_1_0 : ∀ s ∈ ([[]] : List (List Nat)), Fin 1 s := List.forall_mem_cons.mpr ⟨fin_e_1, fun _ h => nomatch h⟩
theorem fins_1_1 : ∀ s ∈ ([[1]] : List (List Nat)), Fin 1 s := List.forall_mem_cons.mpr ⟨fin_1_1, fun _ h => nomatch h⟩
theorem fins_1_2 : ∀ s ∈ ([[1, 1], [2]] : List (List Nat)), Fin 1 s := List.forall_mem_cons.mpr ⟨fin_1_1_1, List.forall_mem_cons.mpr ⟨fin_2_1, fun _ h => nomatch h⟩⟩
theorem fins_1_3 : ∀ s ∈ ([[1, 1, 1], [2, 1], [3]] : List (List Nat)), Fin 1 s := List.forall_mem_cons.mpr ⟨fin_1_1_1_1, List.forall_mem_cons.mpr ⟨fin_2_1_1, List.forall_mem_cons.mpr ⟨fin_3_1, fun _ h => nomatch h⟩⟩⟩
theorem fins_1_4 : ∀ s ∈ ([[1, 1, 1, 1], [2, 1, 1], [2, 2], [3, 1], [4]] : List (List Nat)), Fin 1 s := List.forall_mem_cons.mpr ⟨fin_1_1_1_1_1, List.forall_mem_cons.mpr ⟨fin_2_1_1_1, List.forall_mem_cons.mpr ⟨fin_2_2_1, List.forall_mem_cons.mpr ⟨fin_3_1_1, List.forall_mem_cons.mpr ⟨fin_4_1, fun _ h => nomatch h⟩⟩⟩⟩⟩
theorem fins_1_5 : ∀ s ∈ ([[1, 1, 1, 1, 1], [2, 1, 1, 1], [2, 2, 1], [3, 1, 1], [3, 2], [4, 1], [5]] : List (List Nat)), Fin 1 s := List.forall_mem_cons.mpr ⟨fin_1_1_1_1_1_1, List.forall_mem_cons.mpr ⟨fin_2_1_1_1_1, List.forall_mem_cons.mpr ⟨fin_2_2_1_1, List.forall_mem_cons.mpr ⟨fin_3_1_1_1, List.forall_mem_cons.mpr ⟨fin_3_2_1, List.forall_mem_cons.mpr ⟨fin_4_1_1, List.forall_mem_cons.mpr ⟨fin_5_1, fun _ h => nomatch h⟩⟩⟩⟩⟩⟩⟩
theorem fins_1_6 : ∀ s ∈ ([[1, 1, 1, 1, 1, 1], [2, 1, 1, 1, 1], [2, 2, 1, 1], [2, 2, 2], [3, 1, 1, 1], [3, 2, 1], [3, 3], [4, 1, 1], [4, 2], [5, 1], [6]] : List (List Nat)), Fin 1 s := List.forall_mem_cons.mpr ⟨fin_1_1_1_1_1_1_1, List.forall_mem_cons.mpr ⟨fin_2_1_1_1_1_1, List.forall_mem_cons.mpr ⟨fin_2_2_1_1_1, List.forall_mem_cons.mpr ⟨fin_2_2_2_1, List.forall_mem_cons.mpr ⟨fin_3_1_1_1_1, List.forall_mem_cons.mpr ⟨fin_3_2_1_1, List.forall_mem_cons.mpr ⟨fin_3_3_1, List.forall_mem_cons.mpr ⟨fin_4_1_1_1, List.forall_mem_cons.mpr ⟨fin_4_2_1, List.forall_mem_cons.mpr ⟨fin_5_1_1, List.forall_mem_cons.mpr ⟨fin_6_1, fun _ h => nomatch h⟩⟩⟩⟩⟩⟩⟩⟩⟩⟩⟩
theorem fins_1_7 : ∀ s ∈ ([[1, 1, 1, 1, 1, 1, 1], [2, 1, 1, 1, 1, 1], [2, 2, 1, 1, 1], [2, 2, 2, 1], [3, 1, 1, 1, 1], [3, 2, 1, 1], [3, 2, 2], [3, 3, 1], [4, 1, 1, 1], [4, 2, 1], [4, 3], [5, 1, 1], [5, 2], [6, 1], [7]] : List (List Nat)), Fin 1 s := List.forall_mem_cons.mpr ⟨fin_1_1_1_1_1_1_1_1, List.forall_mem_cons.mpr ⟨fin_2_1_1_1_1_1_1, List.forall_mem_cons.mpr ⟨fin_2_2_1_1_1_1, List.forall_mem_cons.mpr ⟨fin_2_2_2_1_1, List.forall_mem_cons.mpr ⟨fin_3_1_1_1_1_1, List.forall_mem_cons.mpr ⟨fin_3_2_1_1_1, List.forall_mem_cons.mpr ⟨fin_3_2_2_1, List.forall_mem_cons.mpr ⟨fin_3_3_1_1, List.forall_mem_cons.mpr ⟨fin_4_1_1_1_1, List.forall_mem_cons.mpr ⟨fin_4_2_1_1, List.forall_mem_cons.mpr ⟨fin_4_3_1, List.forall_mem_cons.mpr ⟨fin_5_1_1_1, List.forall_mem_cons.mpr ⟨fin_5_2_1, List.forall_mem_cons.mpr ⟨fin_6_1_1, List.forall_mem_cons.mpr ⟨fin_7_1, fun _ h => nomatch h⟩⟩⟩⟩⟩⟩⟩⟩⟩⟩⟩⟩⟩⟩⟩
theorem fin_e_2 : Fin 2 [] := Fin.of (mi := 2) rfl tv_e tv_e tv_e tv_e cut_e_2 rib_e_2 cen_e_2 cen_e_2 ti_e ti_e sh_e rp_e
theorem fin_1_2 : Fin 2 [1] := Fin.of (mi := 2) rfl tv_1 tv_1 tv_1 tv_1 cut_1_2 rib_1_2 cen_1_2 cen_1_2 ti_1 ti_1 sh_1 rp_1
theorem fin_2_2 : Fin 2 [2] := Fin.of (mi := 2) rfl tv_2 tv_1_1 tv_e tv_e cut_2_2 rib_2_2 cen_2_2 cen_1_1_2 ti_2 ti_e sh_1_1 rp_e
theorem fin_1_1_2 : Fin 2 [1, 1] := Fin.of (mi := 2) rfl tv_1_1 tv_2 tv_e tv_e cut_1_1_2 rib_1_1_2 cen_1_1_2 cen_2_2 ti_1_1 ti_e sh_2 rp_e
theorem fin_3_2 : Fin 2 [3] := Fin.of (mi := 2) rfl tv_3 tv_1_1_1 tv_1 tv_1 cut_3_2 rib_3_2 cen_3_2 cen_1_1_1_2 ti_3 ti_1 sh_1_1_1 rp_1
theorem fin_2_1_2 : Fin 2 [2, 1] := Fin.of (mi := 2) rfl tv_2_1 tv_2_1 tv_2_1 tv_2_1 cut_2_1_2 rib_2_1_2 cen_2_1_2 cen_2_1_2 ti_2_1 ti_2_1 sh_2_1 rp_2_1
theorem fin_1_1_1_2 : Fin 2 [1, 1, 1] := Fin.of (mi := 2) rfl tv_1_1_1 tv_3 tv_1 tv_1 cut_1_1_1_2 rib_1_1_1_2 cen_1_1_1_2 cen_3_2 ti_1_1_1 ti_1 sh_3 rp_1
theorem fin_4_2 : Fin 2 [4] := Fin.of (mi := 2) rfl tv_4 tv_1_1_1_1 tv_e tv_e cut_4_2 rib_4_2 cen_4_2 cen_1_1_1_1_2 ti_4 ti_e sh_1_1_1_1 rp_e
theorem fin_3_1_2 : Fin 2 [3, 1] := Fin.of (mi := 2) rfl tv_3_1 tv_2_1_1 tv_e tv_e cut_3_1_2 rib_3_1_2 cen_3_1_2 cen_2_1_1_2 ti_3_1 ti_e sh_2_1_1 rp_e
theorem fin_2_2_2 : Fin 2 [2, 2] := Fin.of (mi := 2) rfl tv_2_2 tv_2_2 tv_e tv_e cut_2_2_2 rib_2_2_2 cen_2_2_2 cen_2_2_2 ti_2_2 ti_e sh_2_2 rp_e
theorem fin_2_1_1_2 : Fin 2 [2, 1, 1] := Fin.of (mi := 2) rfl tv_2_1_1 tv_3_1 tv_e tv_e cut_2_1_1_2 rib_2_1_1_2 cen_2_1_1_2 cen_3_1_2 ti_2_1_1 ti_e sh_3_1 rp_e
theorem fin_1_1_1_1_2 : Fin 2 [1, 1, 1, 1] := Fin.of (mi := 2) rfl tv_1_1_1_1 tv_4 tv_e tv_e cut_1_1_1_1_2 rib_1_1_1_1_2 cen_1_1_1_1_2 cen_4_2 ti_1_1_1_1 ti_e sh_4 rp_e
theorem fin_5_2 : Fin 2 [5] := Fin.of (mi := 2) rfl tv_5 tv_1_1_1_1_1 tv_1 tv_1 cut_5_2 rib_5_2 cen_5_2 cen_1_1_1_1_1_2 ti_5 ti_1 sh_1_1_1_1_1 rp_1
theorem fin_4_1_2 : Fin 2 [4, 1] := Fin.of (mi := 2) rfl tv_4_1 tv_2_1_1_1 tv_2_1 tv_2_1 cut_4_1_2 rib_4_1_2 cen_4_1_2 cen_2_1_1_1_2 ti_4_1 ti_2_1 sh_2_1_1_1 rp_2_1
theorem fin_3_2_2 : Fin 2 [3, 2] := Fin.of (mi := 2) rfl tv_3_2 tv_2_2_1 tv_1 tv_1 cut_3_2_2 rib_3_2_2 cen_3_2_2 cen_2_2_1_2 ti_3_2 ti_1 sh_2_2_1 rp_1
theorem fin_3_1_1_2 : Fin 2 [3, 1, 1] := Fin.of (mi := 2) rfl tv_3_1_1 tv_3_1_1 tv_1 tv_1 cut_3_1_1_2 rib_3_1_1_2 cen_3_1_1_2 cen_3_1_1_2 ti_3_1_1 ti_1 sh_3_1_1 rp_1
theorem fin_2_2_1_2 : Fin 2 [2, 2, 1] := Fin.of (mi := 2) rfl tv_2_2_1 tv_3_2 tv_1 tv_1 cut_2_2_1_2 rib_2_2_1_2 cen_2_2_1_2 cen_3_2_2 ti_2_2_1 ti_1 sh_3_2 rp_1
theorem fin_2_1_1_1_2 : Fin 2 [2, 1, 1, 1] := Fin.of (mi := 2) rfl tv_2_1_1_1 tv_4_1 tv_2_1 tv_2_1 cut_2_1_1_1_2 rib_2_1_1_1_2 cen_2_1_1_1_2 cen_4_1_2 ti_2_1_1_1 ti_2_1 sh_4_1 rp_2_1
theorem fin_1_1_1_1_1_2 : Fin 2 [1, 1, 1, 1, 1] := Fin.of (mi := 2) rfl tv_1_1_1_1_1 tv_5 tv_1 tv_1 cut_1_1_1_1_1_2 rib_1_1_1_1_1_2 cen_1_1_1_1_1_2 cen_5_2 ti_1_1_1_1_1 ti_1 sh_5 rp_1
theorem fin_6_2 : Fin 2 [6] := Fin.of (mi := 2) rfl tv_6 tv_1_1_1_1_1_1 tv_e tv_e cut_6_2 rib_6_2 cen_6_2 cen_1_1_1_1_1_1_2 ti_6 ti_e sh_1_1_1_1_1_1 rp_e
theorem fin_5_1_2 : Fin 2 [5, 1] := Fin.of (mi := 2) rfl tv_5_1 tv_2_1_1_1_1 tv_e tv_e cut_5_1_2 rib_5_1_2 cen_5_1_2 cen_2_1_1_1_1_2 ti_5_1 ti_e sh_2_1_1_1_1 rp_e
theorem fin_4_2_2 : Fin 2 [4, 2] := Fin.of (mi := 2) rfl tv_4_2 tv_2_2_1_1 tv_e tv_e cut_4_2_2 rib_4_2_2 cen_4_2_2 cen_2_2_1_1_2 ti_4_2 ti_e sh_2_2_1_1 rp_e
theorem fin_4_1_1_2 : Fin 2 [4, 1, 1] := Fin.of (mi := 2) rfl tv_4_1_1 tv_3_1_1_1 tv_e tv_e cut_4_1_1_2 rib_4_1_1_2 cen_4_1_1_2 cen_3_1_1_1_2 ti_4_1_1 ti_e sh_3_1_1_1 rp_e
theorem fin_3_3_2 : Fin 2 [3, 3] := Fin.of (mi := 2) rfl tv_3_3 tv_2_2_2 tv_e tv_e cut_3_3_2 rib_3_3_2 cen_3_3_2 cen_2_2_2_2 ti_3_3 ti_e sh_2_2_2 rp_e
theorem fin_3_2_1_2 : Fin 2 [3, 2, 1] := Fin.of (mi := 2) rfl tv_3_2_1 tv_3_2_1 tv_3_2_1 tv_3_2_1 cut_3_2_1_2 rib_3_2_1_2 cen_3_2_1_2 cen_3_2_1_2 ti_3_2_1 ti_3_2_1 sh_3_2_1 rp_3_2_1
theorem fin_3_1_1_1_2 : Fin 2 [3, 1, 1, 1] := Fin.of (mi := 2) rfl tv_3_1_1_1 tv_4_1_1 tv_e tv_e cut_3_1_1_1_2 rib_3_1_1_1_2 cen_3_1_1_1_2 cen_4_1_1_2 ti_3_1_1_1 ti_e sh_4_1_1 rp_e
theorem fin_2_2_2_2 : Fin 2 [2, 2, 2] := Fin.of (mi := 2) rfl tv_2_2_2 tv_3_3 tv_e tv_e cut_2_2_2_2 rib_2_2_2_2 cen_2_2_2_2 cen_3_3_2 ti_2_2_2 ti_e sh_3_3 rp_e
theorem fin_2_2_1_1_2 : Fin 2 [2, 2, 1, 1] := Fin.of (mi := 2) rfl tv_2_2_1_1 tv_4_2 tv_e tv_e cut_2_2_1_1_2 rib_2_2_1_1_2 cen_2_2_1_1_2 cen_4_2_2 ti_2_2_1_1 ti_e sh_4_2 rp_e
theorem fin_2_1_1_1_1_2 : Fin 2 [2, 1, 1, 1, 1] := Fin.of (mi := 2) rfl tv_2_1_1_1_1 tv_5_1 tv_e tv_e cut_2_1_1_1_1_2 rib_2_1_1_1_1_2 cen_2_1_1_1_1_2 cen_5_1_2 ti_2_1_1_1_1 ti_e sh_5_1 rp_e
theorem fin_1_1_1_1_1_1_2 : Fin 2 [1, 1, 1, 1, 1, 1] := Fin.of (mi := 2) rfl tv_1_1_1_1_1_1 tv_6 tv_e tv_e cut_1_1_1_1_1_1_2 rib_1_1_1_1_1_1_2 cen_1_1_1_1_1_1_2 cen_6_2 ti_1_1_1_1_1_1 ti_e sh_6 rp_e
theorem fin_7_2 : Fin 2 [7] := Fin.of (mi := 2) rfl tv_7 tv_1_1_1_1_1_1_1 tv_1 tv_1 cut_7_2 rib_7_2 cen_7_2 cen_1_1_1_1_1_1_1_2 ti_7 ti_1 sh_1_1_1_1_1_1_1 rp_1
theorem fin_6_1_2 : Fin 2 [6, 1] := Fin.of (mi := 2) rfl tv_6_1 tv_2_1_1_1_1_1 tv_2_1 tv_2_1 cut_6_1_2 rib_6_1_2 cen_6_1_2 cen_2_1_1_1_1_1_2 ti_6_1 ti_2_1 sh_2_1_1_1_1_1 rp_2_1
theorem fin_5_2_2 : Fin 2 [5, 2] := Fin.of (mi := 2) rfl tv_5_2 tv_2_2_1_1_1 tv_1 tv_1 cut_5_2_2 rib_5_2_2 cen_5_2_2 cen_2_2_1_1_1_2 ti_5_2 ti_1 sh_2_2_1_1_1 rp_1
theorem fin_5_1_1_2 : Fin 2 [5, 1, 1] := Fin.of (mi := 2) rfl tv_5_1_1 tv_3_1_1_1_1 tv_1 tv_1 cut_5_1_1_2 rib_5_1_1_2 cen_5_1_1_2 cen_3_1_1_1_1_2 ti_5_1_1 ti_1 sh_3_1_1_1_1 rp_1
theorem fin_4_3_2 : Fin 2 [4, 3] := Fin.of (mi := 2) rfl tv_4_3 tv_2_2_2_1 tv_2_1 tv_2_1 cut_4_3_2 rib_4_3_2 cen_4_3_2 cen_2_2_2_1_2 ti_4_3 ti_2_1 sh_2_2_2_1 rp_2_1
theorem fin_4_2_1_2 : Fin 2 [4, 2, 1] := Fin.of (mi := 2) rfl tv_4_2_1 tv_3_2_1_1 tv_1 tv_1 cut_4_2_1_2 rib_4_2_1_2 cen_4_2_1_2 cen_3_2_1_1_2 ti_4_2_1 ti_1 sh_3_2_1_1 rp_1
theorem fin_4_1_1_1_2 : Fin 2 [4, 1, 1, 1] := Fin.of (mi := 2) rfl tv_4_1_1_1 tv_4_1_1_1 tv_2_1 tv_2_1 cut_4_1_1_1_2 rib_4_1_1_1_2 cen_4_1_1_1_2 cen_4_1_1_1_2 ti_4_1_1_1 ti_2_1 sh_4_1_1_1 rp_2_1
theorem fin_3_3_1_2 : Fin 2 [3, 3, 1] := Fin.of (mi := 2) rfl tv_3_3_1 tv_3_2_2 tv_1 tv_1 cut_3_3_1_2 rib_3_3_1_2 cen_3_3_1_2 cen_3_2_2_2 ti_3_3_1 ti_1 sh_3_2_2 rp_1
theorem fin_3_2_2_2 : Fin 2 [3, 2, 2] := Fin.of (mi := 2) rfl tv_3_2_2 tv_3_3_1 tv_1 tv_1 cut_3_2_2_2 rib_3_2_2_2 cen_3_2_2_2 cen_3_3_1_2 ti_3_2_2 ti_1 sh_3_3_1 rp_1
theorem fin_3_2_1_1_2 : Fin 2 [3, 2, 1, 1] := Fin.of (mi := 2) rfl tv_3_2_1_1 tv_4_2_1 tv_1 tv_1 cut_3_2_1_1_2 rib_3_2_1_1_2 cen_3_2_1_1_2 cen_4_2_1_2 ti_3_2_1_1 ti_1 sh_4_2_1 rp_1
theorem fin_3_1_1_1_1_2 : Fin 2 [3, 1, 1, 1, 1] := Fin.of (mi := 2) rfl tv_3_1_1_1_1 tv_5_1_1 tv_1 tv_1 cut_3_1_1_1_1_2 rib_3_1_1_1_1_2 cen_3_1_1_1_1_2 cen_5_1_1_2 ti_3_1_1_1_1 ti_1 sh_5_1_1 rp_1
theorem fin_2_2_2_1_2 : Fin 2 [2, 2, 2, 1] := Fin.of (mi := 2) rfl tv_2_2_2_1 tv_4_3 tv_2_1 tv_2_1 cut_2_2_2_1_2 rib_2_2_2_1_2 cen_2_2_2_1_2 cen_4_3_2 ti_2_2_2_1 ti_2_1 sh_4_3 rp_2_1
theorem fin_2_2_1_1_1_2 : Fin 2 [2, 2, 1, 1, 1] := Fin.of (mi := 2) rfl tv_2_2_1_1_1 tv_5_2 tv_1 tv_1 cut_2_2_1_1_1_2 rib_2_2_1_1_1_2 cen_2_2_1_1_1_2 cen_5_2_2 ti_2_2_1_1_1 ti_1 sh_5_2 rp_1
theorem fin_2_1_1_1_1_1_2 : Fin 2 [2, 1, 1, 1, 1, 1] := Fin.of (mi := 2) rfl tv_2_1_1_1_1_1 tv_6_1 tv_2_1 tv_2_1 cut_2_1_1_1_1_1_2 rib_2_1_1_1_1_1_2 cen_2_1_1_1_1_1_2 cen_6_1_2 ti_2_1_1_1_1_1 ti_2_1 sh_6_1 rp_2_1
theorem fin_1_1_1_1_1_1_1_2 : Fin 2 [1, 1, 1, 1, 1, 1, 1] := Fin.of (mi := 2) rfl tv_1_1_1_1_1_1_1 tv_7 tv_1 tv_1 cut_1_1_1_1_1_1_1_2 rib_1_1_1_1_1_1_1_2 cen_1_1_1_1_1_1_1_2 cen_7_2 ti_1_1_1_1_1_1_1 ti_1 sh_7 rp_1
theorem fins_2_0 : ∀ s ∈ ([[]] : List (List Nat)), Fin 2 s := List.forall_mem_cons.mpr ⟨fin_e_2, fun _ h => nomatch h⟩
theorem fins_2_1 : ∀ s ∈ ([[1]] : List (List Nat)), Fin 2 s := List.forall_mem_cons.mpr ⟨fin_1_2, fun _ h => nomatch h⟩
theorem fins_2_2 : ∀ s ∈ ([[1, 1], [2]] : List (List Nat)), Fin 2 s := List.forall_mem_cons.mpr ⟨fin_1_1_2, List.forall_mem_cons.mpr ⟨fin_2_2, fun _ h => nomatch h⟩⟩
theorem fins_2_3 : ∀ s ∈ ([[1, 1, 1], [2, 1], [3]] : List (List Nat)), Fin 2 s := List.forall_mem_cons.mpr ⟨fin_1_1_1_2, List.forall_mem_cons.mpr ⟨fin_2_1_2, List.forall_mem_cons.mpr ⟨fin_3_2, fun _ h => nomatch h⟩⟩⟩
theorem fins_2_4 : ∀ s ∈ ([[1, 1, 1, 1], [2, 1, 1], [2, 2], [3, 1], [4]] : List (List Nat)), Fin 2 s := List.forall_mem_cons.mpr ⟨fin_1_1_1_1_2, List.forall_mem_cons.mpr ⟨fin_2_1_1_2, List.forall_mem_cons.mpr ⟨fin_2_2_2, List.forall_mem_cons.mpr ⟨fin_3_1_2, List.forall_mem_cons.mpr ⟨fin_4_2, fun _ h => nomatch h⟩⟩⟩⟩⟩
theorem fins_2_5 : ∀ s ∈ ([[1, 1, 1, 1, 1], [2, 1, 1, 1], [2, 2, 1], [3, 1, 1], [3, 2], [4, 1], [5]] : List (List Nat)), Fin 2 s := List.forall_mem_cons.mpr ⟨fin_1_1_1_1_1_2, List.forall_mem_cons.mpr ⟨fin_2_1_1_1_2, List.forall_mem_cons.mpr ⟨fin_2_2_1_2, List.forall_mem_cons.mpr ⟨fin_3_1_1_2, List.forall_mem_cons.mpr ⟨fin_3_2_2, List.forall_mem_cons.mpr ⟨fin_4_1_2, List.forall_mem_cons.mpr ⟨fin_5_2, fun _ h => nomatch h⟩⟩⟩⟩⟩⟩⟩
theorem fins_2_6 : ∀ s ∈ ([[1, 1, 1, 1, 1, 1], [2, 1, 1, 1, 1], [2, 2, 1, 1], [2, 2, 2], [3, 1, 1, 1], [3, 2, 1], [3, 3], [4, 1, 1], [4, 2], [5, 1], [6]] : List (List Nat)), Fin 2 s := List.forall_mem_cons.mpr ⟨fin_1_1_1_1_1_1_2, List.forall_mem_cons.mpr ⟨fin_2_1_1_1_1_2, List.forall_mem_cons.mpr ⟨fin_2_2_1_1_2, List.forall_mem_cons.mpr ⟨fin_2_2_2_2, List.forall_mem_cons.mpr ⟨fin_3_1_1_1_2, List.forall_mem_cons.mpr ⟨fin_3_2_1_2, List.forall_mem_cons.mpr ⟨fin_3_3_2, List.forall_mem_cons.mpr ⟨fin_4_1_1_2, List.forall_mem_cons.mpr ⟨fin_4_2_2, List.forall_mem_cons.mpr ⟨fin_5_1_2, List.forall_mem_cons.mpr ⟨fin_6_2, fun _ h => nomatch h⟩⟩⟩⟩⟩⟩⟩⟩⟩⟩⟩
theorem fins_2_7 : ∀ s ∈ ([[1, 1, 1, 1, 1, 1, 1], [2, 1, 1, 1, 1, 1], [2, 2, 1, 1, 1], [2, 2, 2, 1], [3, 1, 1, 1, 1], [3, 2, 1, 1], [3, 2, 2], [3, 3, 1], [4, 1, 1, 1], [4, 2, 1], [4, 3], [5, 1, 1], [5, 2], [6, 1], [7]] : List (List Nat)), Fin 2 s := List.forall_mem_cons.mpr ⟨fin_1_1_1_1_1_1_1_2, List.forall_mem_cons.mpr ⟨fin_2_1_1_1_1_1_2, List.forall_mem_cons.mpr ⟨fin_2_2_1_1_1_2, List.forall_mem_cons.mpr ⟨fin_2_2_2_1_2, List.forall_mem_cons.mpr ⟨fin_3_1_1_1_1_2, List.forall_mem_cons.mpr ⟨fin_3_2_1_1_2, List.forall_mem_cons.mpr ⟨fin_3_2_2_2, List.forall_mem_cons.mpr ⟨fin_3_3_1_2, List.forall_mem_cons.mpr ⟨fin_4_1_1_1_2, List.forall_mem_cons.mpr ⟨fin_4_2_1_2, List.forall_mem_cons.mpr ⟨fin_4_3_2, List.forall_mem_cons.mpr ⟨fin_5_1_1_2, List.forall_mem_cons.mpr ⟨fin_5_2_2, List.forall_mem_cons.mpr ⟨fin_6_1_2, List.forall_mem_cons.mpr ⟨fin_7_2, fun _ h => nomatch h⟩⟩⟩⟩⟩⟩⟩⟩⟩⟩⟩⟩⟩⟩⟩
theorem fin_e_3 : Fin 3 [] := Fin.of (mi := 3) rfl tv_e tv_e tv_e tv_e cut_e_3 rib_e_3 cen_e_3 cen_e_3 ti_e ti_e sh_e rp_e
theorem fin_1_3 : Fin 3 [1] := Fin.of (mi := 3) rfl tv_1 tv_1 tv_1 tv_1 cut_1_3 rib_1_3 cen_1_3 cen_1_3 ti_1 ti_1 sh_1 rp_1
theorem fin_2_3 : Fin 3 [2] := Fin.of (mi := 3) rfl tv_2 tv_1_1 tv_2 tv_1_1 cut_2_3 rib_2_3 cen_2_3 cen_1_1_3 ti_2 ti_2 sh_1_1 rp_2
theorem fin_1_1_3 : Fin 3 [1, 1] := Fin.of (mi := 3) rfl tv_1_1 tv_2 tv_1_1 tv_2 cut_1_1_3 rib_1_1_3 cen_1_1_3 cen_2_3 ti_1_1 ti_1_1 sh_2 rp_1_1
theorem fin_3_3 : Fin 3 [3] := Fin.of (mi := 3) rfl tv_3 tv_1_1_1 tv_e tv_e cut_3_3 rib_3_3 cen_3_3 cen_1_1_1_3 ti_3 ti_e sh_1_1_1 rp_e
theorem fin_2_1_3 : Fin 3 [2, 1] := Fin.of (mi := 3) rfl tv_2_1 tv_2_1 tv_e tv_e cut_2_1_3 rib_2_1_3 cen_2_1_3 cen_2_1_3 ti_2_1 ti_e sh_2_1 rp_e
theorem fin_1_1_1_3 : Fin 3 [1, 1, 1] := Fin.of (mi := 3) rfl tv_1_1_1 tv_3 tv_e tv_e cut_1_1_1_3 rib_1_1_1_3 cen_1_1_1_3 cen_3_3 ti_1_1_1 ti_e sh_3 rp_e
theorem fin_4_3 : Fin 3 [4] := Fin.of (mi := 3) rfl tv_4 tv_1_1_1_1 tv_1 tv_1 cut_4_3 rib_4_3 cen_4_3 cen_1_1_1_1_3 ti_4 ti_1 sh_1_1_1_1 rp_1
theorem fin_3_1_3 : Fin 3 [3, 1] := Fin.of (mi := 3) rfl tv_3_1 tv_2_1_1 tv_3_1 tv_2_1_1 cut_3_1_3 rib_3_1_3 cen_3_1_3 cen_2_1_1_3 ti_3_1 ti_3_1 sh_2_1_1 rp_3_1
theorem fin_2_2_3 : Fin 3 [2, 2] := Fin.of (mi := 3) rfl tv_2_2 tv_2_2 tv_1 tv_1 cut_2_2_3 rib_2_2_3 cen_2_2_3 cen_2_2_3 ti_2_2 ti_1 sh_2_2 rp_1
theorem fin_2_1_1_3 : Fin 3 [2, 1, 1] := Fin.of (mi := 3) rfl tv_2_1_1 tv_3_1 tv_2_1_1 tv_3_1 cut_2_1_1_3 rib_2_1_1_3 cen_2_1_1_3 cen_3_1_3 ti_2_1_1 ti_2_1_1 sh_3_1 rp_2_1_1
theorem fin_1_1_1_1_3 : Fin 3 [1, 1, 1, 1] := Fin.of (mi := 3) rfl tv_1_1_1_1 tv_4 tv_1 tv_1 cut_1_1_1_1_3 rib_1_1_1_1_3 cen_1_1_1_1_3 cen_4_3 ti_1_1_1_1 ti_1 sh_4 rp_1
theorem fin_5_3 : Fin 3 [5] := Fin.of (mi := 3) rfl tv_5 tv_1_1_1_1_1 tv_2 tv_1_1 cut_5_3 rib_5_3 cen_5_3 cen_1_1_1_1_1_3 ti_5 ti_2 sh_1_1_1_1_1 rp_2
theorem fin_4_1_3 : Fin 3 [4, 1] := Fin.of (mi := 3) rfl tv_4_1 tv_2_1_1_1 tv_1_1 tv_2 cut_4_1_3 rib_4_1_3 cen_4_1_3 cen_2_1_1_1_3 ti_4_1 ti_1_1 sh_2_1_1_1 rp_1_1
theorem fin_3_2_3 : Fin 3 [3, 2] := Fin.of (mi := 3) rfl tv_3_2 tv_2_2_1 tv_1_1 tv_2 cut_3_2_3 rib_3_2_3 cen_3_2_3 cen_2_2_1_3 ti_3_2 ti_1_1 sh_2_2_1 rp_1_1
theorem fin_3_1_1_3 : Fin 3 [3, 1, 1] := Fin.of (mi := 3) rfl tv_3_1_1 tv_3_1_1 tv_3_1_1 tv_3_1_1 cut_3_1_1_3 rib_3_1_1_3 cen_3_1_1_3 cen_3_1_1_3 ti_3_1_1 ti_3_1_1 sh_3_1_1 rp_3_1_1
theorem fin_2_2_1_3 : Fin 3 [2, 2, 1] := Fin.of (mi := 3) rfl tv_2_2_1 tv_3_2 tv_2 tv_1_1 cut_2_2_1_3 rib_2_2_1_3 cen_2_2_1_3 cen_3_2_3 ti_2_2_1 ti_2 sh_3_2 rp_2
theorem fin_2_1_1_1_3 : Fin 3 [2, 1, 1, 1] := Fin.of (mi := 3) rfl tv_2_1_1_1 tv_4_1 tv_2 tv_1_1 cut_2_1_1_1_3 rib_2_1_1_1_3 cen_2_1_1_1_3 cen_4_1_3 ti_2_1_1_1 ti_2 sh_4_1 rp_2
theorem fin_1_1_1_1_1_3 : Fin 3 [1, 1, 1, 1, 1] := Fin.of (mi := 3) rfl tv_1_1_1_1_1 tv_5 tv_1_1 tv_2 cut_1_1_1_1_1_3 rib_1_1_1_1_1_3 cen_1_1_1_1_1_3 cen_5_3 ti_1_1_1_1_1 ti_1_1 sh_5 rp_1_1
theorem fin_6_3 : Fin 3 [6] := Fin.of (mi := 3) rfl tv_6 tv_1_1_1_1_1_1 tv_e tv_e cut_6_3 rib_6_3 cen_6_3 cen_1_1_1_1_1_1_3 ti_6 ti_e sh_1_1_1_1_1_1 rp_e
theorem fin_5_1_3 : Fin 3 [5, 1] := Fin.of (mi := 3) rfl tv_5_1 tv_2_1_1_1_1 tv_e tv_e cut_5_1_3 rib_5_1_3 cen_5_1_3 cen_2_1_1_1_1_3 ti_5_1 ti_e sh_2_1_1_1_1 rp_e
theorem fin_4_2_3 : Fin 3 [4, 2] := Fin.of (mi := 3) rfl tv_4_2 tv_2_2_1_1 tv_4_2 tv_2_2_1_1 cut_4_2_3 rib_4_2_3 cen_4_2_3 cen_2_2_1_1_3 ti_4_2 ti_4_2 sh_2_2_1_1 rp_4_2
theorem fin_4_1_1_3 : Fin 3 [4, 1, 1] := Fin.of (mi := 3) rfl tv_4_1_1 tv_3_1_1_1 tv_e tv_e cut_4_1_1_3 rib_4_1_1_3 cen_4_1_1_3 cen_3_1_1_1_3 ti_4_1_1 ti_e sh_3_1_1_1 rp_e
theorem fin_3_3_3 : Fin 3 [3, 3] := Fin.of (mi := 3) rfl tv_3_3 tv_2_2_2 tv_e tv_e cut_3_3_3 rib_3_3_3 cen_3_3_3 cen_2_2_2_3 ti_3_3 ti_e sh_2_2_2 rp_e
theorem fin_3_2_1_3 : Fin 3 [3, 2, 1] := Fin.of (mi := 3) rfl tv_3_2_1 tv_3_2_1 tv_e tv_e cut_3_2_1_3 rib_3_2_1_3 cen_3_2_1_3 cen_3_2_1_3 ti_3_2_1 ti_e sh_3_2_1 rp_e
theorem fin_3_1_1_1_3 : Fin 3 [3, 1, 1, 1] := Fin.of (mi := 3) rfl tv_3_1_1_1 tv_4_1_1 tv_e tv_e cut_3_1_1_1_3 rib_3_1_1_1_3 cen_3_1_1_1_3 cen_4_1_1_3 ti_3_1_1_1 ti_e sh_4_1_1 rp_e
theorem fin_2_2_2_3 : Fin 3 [2, 2, 2] := Fin.of (mi := 3) rfl tv_2_2_2 tv_3_3 tv_e tv_e cut_2_2_2_3 rib_2_2_2_3 cen_2_2_2_3 cen_3_3_3 ti_2_2_2 ti_e sh_3_3 rp_e
theorem fin_2_2_1_1_3 : Fin 3 [2, 2, 1, 1] := Fin.of (mi := 3) rfl tv_2_2_1_1 tv_4_2 tv_2_2_1_1 tv_4_2 cut_2_2_1_1_3 rib_2_2_1_1_3 cen_2_2_1_1_3 cen_4_2_3 ti_2_2_1_1 ti_2_2_1_1 sh_4_2 rp_2_2_1_1
theorem fin_2_1_1_1_1_3 : Fin 3 [2, 1, 1, 1, 1] := Fin.of (mi := 3) rfl tv_2_1_1_1_1 tv_5_1 tv_e tv_e cut_2_1_1_1_1_3 rib_2_1_1_1_1_3 cen_2_1_1_1_1_3 cen_5_1_3 ti_2_1_1_1_1 ti_e sh_5_1 rp_e
theorem fin_1_1_1_1_1_1_3 : Fin 3 [1, 1, 1, 1, 1, 1] := Fin.of (mi := 3) rfl tv_1_1_1_1_1_1 tv_6 tv_e tv_e cut_1_1_1_1_1_1_3 rib_1_1_1_1_1_1_3 cen_1_1_1_1_1_1_3 cen_6_3 ti_1_1_1_1_1_1 ti_e sh_6 rp_e
theorem fin_7_3 : Fin 3 [7] := Fin.of (mi := 3) rfl tv_7 tv_1_1_1_1_1_1_1 tv_1 tv_1 cut_7_3 rib_7_3 cen_7_3 cen_1_1_1_1_1_1_1_3 ti_7 ti_1 sh_1_1_1_1_1_1_1 rp_1
theorem fin_6_1_3 : Fin 3 [6, 1] := Fin.of (mi := 3) rfl tv_6_1 tv_2_1_1_1_1_1 tv_3_1 tv_2_1_1 cut_6_1_3 rib_6_1_3 cen_6_1_3 cen_2_1_1_1_1_1_3 ti_6_1 ti_3_1 sh_2_1_1_1_1_1 rp_3_1
theorem fin_5_2_3 : Fin 3 [5, 2] := Fin.of (mi := 3) rfl tv_5_2 tv_2_2_1_1_1 tv_1 tv_1 cut_5_2_3 rib_5_2_3 cen_5_2_3 cen_2_2_1_1_1_3 ti_5_2 ti_1 sh_2_2_1_1_1 rp_1
theorem fin_5_1_1_3 : Fin 3 [5, 1, 1] := Fin.of (mi := 3) rfl tv_5_1_1 tv_3_1_1_1_1 tv_2_1_1 tv_3_1 cut_5_1_1_3 rib_5_1_1_3 cen_5_1_1_3 cen_3_1_1_1_1_3 ti_5_1_1 ti_2_1_1 sh_3_1_1_1_1 rp_2_1_1
theorem fin_4_3_3 : Fin 3 [4, 3] := Fin.of (mi := 3) rfl tv_4_3 tv_2_2_2_1 tv_1 tv_1 cut_4_3_3 rib_4_3_3 cen_4_3_3 cen_2_2_2_1_3 ti_4_3 ti_1 sh_2_2_2_1 rp_1
theorem fin_4_2_1_3 : Fin 3 [4, 2, 1] := Fin.of (mi := 3) rfl tv_4_2_1 tv_3_2_1_1 tv_1 tv_1 cut_4_2_1_3 rib_4_2_1_3 cen_4_2_1_3 cen_3_2_1_1_3 ti_4_2_1 ti_1 sh_3_2_1_1 rp_1
theorem fin_4_1_1_1_3 : Fin 3 [4, 1, 1, 1] := Fin.of (mi := 3) rfl tv_4_1_1_1 tv_4_1_1_1 tv_1 tv_1 cut_4_1_1_1_3 rib_4_1_1_1_3 cen_4_1_1_1_3 cen_4_1_1_1_3 ti_4_1_1_1 ti_1 sh_4_1_1_1 rp_1
theorem fin_3_3_1_3 : Fin 3 [3, 3, 1] := Fin.of (mi := 3) rfl tv_3_3_1 tv_3_2_2 tv_2_1_1 tv_3_1 cut_3_3_1_3 rib_3_3_1_3 cen_3_3_1_3 cen_3_2_2_3 ti_3_3_1 ti_2_1_1 sh_3_2_2 rp_2_1_1
theorem fin_3_2_2_3 : Fin 3 [3, 2, 2] := Fin.of (mi := 3) rfl tv_3_2_2 tv_3_3_1 tv_3_1 tv_2_1_1 cut_3_2_2_3 rib_3_2_2_3 cen_3_2_2_3 cen_3_3_1_3 ti_3_2_2 ti_3_1 sh_3_3_1 rp_3_1
theorem fin_3_2_1_1_3 : Fin 3 [3, 2, 1, 1] := Fin.of (mi := 3) rfl tv_3_2_1_1 tv_4_2_1 tv_1 tv_1 cut_3_2_1_1_3 rib_3_2_1_1_3 cen_3_2_1_1_3 cen_4_2_1_3 ti_3_2_1_1 ti_1 sh_4_2_1 rp_1
theorem fin_3_1_1_1_1_3 : Fin 3 [3, 1, 1, 1, 1] := Fin.of (mi := 3) rfl tv_3_1_1_1_1 tv_5_1_1 tv_3_1 tv_2_1_1 cut_3_1_1_1_1_3 rib_3_1_1_1_1_3 cen_3_1_1_1_1_3 cen_5_1_1_3 ti_3_1_1_1_1 ti_3_1 sh_5_1_1 rp_3_1
theorem fin_2_2_2_1_3 : Fin 3 [2, 2, 2, 1] := Fin.of (mi := 3) rfl tv_2_2_2_1 tv_4_3 tv_1 tv_1 cut_2_2_2_1_3 rib_2_2_2_1_3 cen_2_2_2_1_3 cen_4_3_3 ti_2_2_2_1 ti_1 sh_4_3 rp_1
theorem fin_2_2_1_1_1_3 : Fin 3 [2, 2, 1, 1, 1] := Fin.of (mi := 3) rfl tv_2_2_1_1_1 tv_5_2 tv_1 tv_1 cut_2_2_1_1_1_3 rib_2_2_1_1_1_3 cen_2_2_1_1_1_3 cen_5_2_3 ti_2_2_1_1_1 ti_1 sh_5_2 rp_1
theorem fin_2_1_1_1_1_1_3 : Fin 3 [2, 1, 1, 1, 1, 1] := Fin.of (mi := 3) rfl tv_2_1_1_1_1_1 tv_6_1 tv_2_1_1 tv_3_1 cut_2_1_1_1_1_1_3 rib_2_1_1_1_1_1_3 cen_2_1_1_1_1_1_3 cen_6_1_3 ti_2_1_1_1_1_1 ti_2_1_1 sh_6_1 rp_2_1_1
theorem fin_1_1_1_1_1_1_1_3 : Fin 3 [1, 1, 1, 1, 1, 1, 1] := Fin.of (mi := 3) rfl tv_1_1_1_1_1_1_1 tv_7 tv_1 tv_1 cut_1_1_1_1_1_1_1_3 rib_1_1_1_1_1_1_1_3 cen_1_1_1_1_1_1_1_3 cen_7_3 ti_1_1_1_1_1_1_1 ti_1 sh_7 rp_1
theorem fins_3_0 : ∀ s ∈ ([[]] : List (List Nat)), Fin 3 s := List.forall_mem_cons.mpr ⟨fin_e_3, fun _ h => nomatch h⟩
theorem fins_3_1 : ∀ s ∈ ([[1]] : List (List Nat)), Fin 3 s := List.forall_mem_cons.mpr ⟨fin_1_3, fun _ h => nomatch h⟩
theorem fins_3_2 : ∀ s ∈ ([[1, 1], [2]] : List (List Nat)), Fin 3 s := List.forall_mem_cons.mpr ⟨fin_1_1_3, List.forall_mem_cons.mpr ⟨fin_2_3, fun _ h => nomatch h⟩⟩
theorem fins_3_3 : ∀ s ∈ ([[1, 1, 1], [2, 1], [3]] : List (List Nat)), Fin 3 s := List.forall_mem_cons.mpr ⟨fin_1_1_1_3, List.forall_mem_cons.mpr ⟨fin_2_1_3, List.forall_mem_cons.mpr ⟨fin_3_3, fun _ h => nomatch h⟩⟩⟩
theorem fins_3_4 : ∀ s ∈ ([[1, 1, 1, 1], [2, 1, 1], [2, 2], [3, 1], [4]] : List (List Nat)), Fin 3 s := List.forall_mem_cons.mpr ⟨fin_1_1_1_1_3, List.forall_mem_cons.mpr ⟨fin_2_1_1_3, List.forall_mem_cons.mpr ⟨fin_2_2_3, List.forall_mem_cons.mpr ⟨fin_3_1_3, List.forall_mem_cons.mpr ⟨fin_4_3, fun _ h => nomatch h⟩⟩⟩⟩⟩
theorem fins_3_5 : ∀ s ∈ ([[1, 1, 1, 1, 1], [2, 1, 1, 1], [2, 2, 1], [3, 1, 1], [3, 2], [4, 1], [5]] : List (List Nat)), Fin 3 s := List.forall_mem_cons.mpr ⟨fin_1_1_1_1_1_3, List.forall_mem_cons.mpr ⟨fin_2_1_1_1_3, List.forall_mem_cons.mpr ⟨fin_2_2_1_3, List.forall_mem_cons.mpr ⟨fin_3_1_1_3, List.forall_mem_cons.mpr ⟨fin_3_2_3, List.forall_mem_cons.mpr ⟨fin_4_1_3, List.forall_mem_cons.mpr ⟨fin_5_3, fun _ h => nomatch h⟩⟩⟩⟩⟩⟩⟩
theorem fins_3_6 : ∀ s ∈ ([[1, 1, 1, 1, 1, 1], [2, 1, 1, 1, 1], [2, 2, 1, 1], [2, 2, 2], [3, 1, 1, 1], [3, 2, 1], [3, 3], [4, 1, 1], [4, 2], [5, 1], [6]] : List (List Nat)), Fin 3 s := List.forall_mem_cons.mpr ⟨fin_1_1_1_1_1_1_3, List.forall_mem_cons.mpr ⟨fin_2_1_1_1_1_3, List.forall_mem_cons.mpr ⟨fin_2_2_1_1_3, List.forall_mem_cons.mpr ⟨fin_2_2_2_3, List.forall_mem_cons.mpr ⟨fin_3_1_1_1_3, List.forall_mem_cons.mpr ⟨fin_3_2_1_3, List.forall_mem_cons.mpr ⟨fin_3_3_3, List.forall_mem_cons.mpr ⟨fin_4_1_1_3, List.forall_mem_cons.mpr ⟨fin_4_2_3, List.forall_mem_cons.mpr ⟨fin_5_1_3, List.forall_mem_cons.mpr ⟨fin_6_3, fun _ h => nomatch h⟩⟩⟩⟩⟩⟩⟩⟩⟩⟩⟩
theorem fins_3_7 : ∀ s ∈ ([[1, 1, 1, 1, 1, 1, 1], [2, 1, 1, 1, 1, 1], [2, 2, 1, 1, 1], [2, 2, 2, 1], [3, 1, 1, 1, 1], [3, 2, 1, 1], [3, 2, 2], [3, 3, 1], [4, 1, 1, 1], [4, 2, 1], [4, 3], [5, 1, 1], [5, 2], [6, 1], [7]] : List (List Nat)), Fin 3 s := List.forall_mem_cons.mpr ⟨fin_1_1_1_1_1_1_1_3, List.forall_mem_cons.mpr ⟨fin_2_1_1_1_1_1_3, List.forall_mem_cons.mpr ⟨fin_2_2_1_1_1_3, List.forall_mem_cons.mpr ⟨fin_2_2_2_1_3, List.forall_mem_cons.mpr ⟨fin_3_1_1_1_1_3, List.forall_mem_cons.mpr ⟨fin_3_2_1_1_3, List.forall_mem_cons.mpr ⟨fin_3_2_2_3, List.forall_mem_cons.mpr ⟨fin_3_3_1_3, List.forall_mem_cons.mpr ⟨fin_4_1_1_1_3, List.forall_mem_cons.mpr ⟨fin_4_2_1_3, List.forall_mem_cons.mpr ⟨fin_4_3_3, List.forall_mem_cons.mpr ⟨fin_5_1_1_3, List.forall_mem_cons.mpr ⟨fin_5_2_3, List.forall_mem_cons.mpr ⟨fin_6_1_3, List.forall_mem_cons.mpr ⟨fin_7_3, fun _ h => nomatch h⟩⟩⟩⟩⟩⟩⟩⟩⟩⟩⟩⟩⟩⟩⟩
theorem fin_e_4 : Fin 4 [] := Fin.of (mi := 4) rfl tv_e tv_e tv_e tv_e cut_e_4 rib_e_4 cen_e_4 cen_e_4 ti_e ti_e sh_e rp_e
theorem fin_1_4 : Fin 4 [1] := Fin.of (mi := 4) rfl tv_1 tv_1 tv_1 tv_1 cut_1_4 rib_1_4 cen_1_4 cen_1_4 ti_1 ti_1 sh_1 rp_1
theorem fin_2_4 : Fin 4 [2] := Fin.of (mi := 4) rfl tv_2 tv_1_1 tv_2 tv_1_1 cut_2_4 rib_2_4 cen_2_4 cen_1_1_4 ti_2 ti_2 sh_1_1 rp_2
theorem fin_1_1_4 : Fin 4 [1, 1] := Fin.of (mi := 4) rfl tv_1_1 tv_2 tv_1_1 tv_2 cut_1_1_4 rib_1_1_4 cen_1_1_4 cen_2_4 ti_1_1 ti_1_1 sh_2 rp_1_1
theorem fin_3_4 : Fin 4 [3] := Fin.of (mi := 4) rfl tv_3 tv_1_1_1 tv_3 tv_1_1_1 cut_3_4 rib_3_4 cen_3_4 cen_1_1_1_4 ti_3 ti_3 sh_1_1_1 rp_3
theorem fin_2_1_4 : Fin 4 [2, 1] := Fin.of (mi := 4) rfl tv_2_1 tv_2_1 tv_2_1 tv_2_1 cut_2_1_4 rib_2_1_4 cen_2_1_4 cen_2_1_4 ti_2_1 ti_2_1 sh_2_1 rp_2_1
theorem fin_1_1_1_4 : Fin 4 [1, 1, 1] := Fin.of (mi := 4) rfl tv_1_1_1 tv_3 tv_1_1_1 tv_3 cut_1_1_1_4 rib_1_1_1_4 cen_1_1_1_4 cen_3_4 ti_1_1_1 ti_1_1_1 sh_3 rp_1_1_1
theorem fin_4_4 : Fin 4 [4] := Fin.of (mi := 4) rfl tv_4 tv_1_1_1_1 tv_e tv_e cut_4_4 rib_4_4 cen_4_4 cen_1_1_1_1_4 ti_4 ti_e sh_1_1_1_1 rp_e
theorem fin_3_1_4 : Fin 4 [3, 1] := Fin.of (mi := 4) rfl tv_3_1 tv_2_1_1 tv_e tv_e cut_3_1_4 rib_3_1_4 cen_3_1_4 cen_2_1_1_4 ti_3_1 ti_e sh_2_1_1 rp_e
theorem fin_2_2_4 : Fin 4 [2, 2] := Fin.of (mi := 4) rfl tv_2_2 tv_2_2 tv_2_2 tv_2_2 cut_2_2_4 rib_2_2_4 cen_2_2_4 cen_2_2_4 ti_2_2 ti_2_2 sh_2_2 rp_2_2
theorem fin_2_1_1_4 : Fin 4 [2, 1, 1] := Fin.of (mi := 4) rfl tv_2_1_1 tv_3_1 tv_e tv_e cut_2_1_1_4 rib_2_1_1_4 cen_2_1_1_4 cen_3_1_4 ti_2_1_1 ti_e sh_3_1 rp_e
theorem fin_1_1_1_1_4 : Fin 4 [1, 1, 1, 1] := Fin.of (mi := 4) rfl tv_1_1_1_1 tv_4 tv_e tv_e cut_1_1_1_1_4 rib_1_1_1_1_4 cen_1_1_1_1_4 cen_4_4 ti_1_1_1_1 ti_e sh_4 rp_e
theorem fin_5_4 : Fin 4 [5] := Fin.of (mi := 4) rfl tv_5 tv_1_1_1_1_1 tv_1 tv_1 cut_5_4 rib_5_4 cen_5_4 cen_1_1_1_1_1_4 ti_5 ti_1 sh_1_1_1_1_1 rp_1
theorem fin_4_1_4 : Fin 4 [4, 1] := Fin.of (mi := 4) rfl tv_4_1 tv_2_1_1_1 tv_4_1 tv_2_1_1_1 cut_4_1_4 rib_4_1_4 cen_4_1_4 cen_2_1_1_1_4 ti_4_1 ti_4_1 sh_2_1_1_1 rp_4_1
theorem fin_3_2_4 : Fin 4 [3, 2] := Fin.of (mi := 4) rfl tv_3_2 tv_2_2_1 tv_1 tv_1 cut_3_2_4 rib_3_2_4 cen_3_2_4 cen_2_2_1_4 ti_3_2 ti_1 sh_2_2_1 rp_1
theorem fin_3_1_1_4 : Fin 4 [3, 1, 1] := Fin.of (mi := 4) rfl tv_3_1_1 tv_3_1_1 tv_3_1_1 tv_3_1_1 cut_3_1_1_4 rib_3_1_1_4 cen_3_1_1_4 cen_3_1_1_4 ti_3_1_1 ti_3_1_1 sh_3_1_1 rp_3_1_1
theorem fin_2_2_1_4 : Fin 4 [2, 2, 1] := Fin.of (mi := 4) rfl tv_2_2_1 tv_3_2 tv_1 tv_1 cut_2_2_1_4 rib_2_2_1_4 cen_2_2_1_4 cen_3_2_4 ti_2_2_1 ti_1 sh_3_2 rp_1
theorem fin_2_1_1_1_4 : Fin 4 [2, 1, 1, 1] := Fin.of (mi := 4) rfl tv_2_1_1_1 tv_4_1 tv_2_1_1_1 tv_4_1 cut_2_1_1_1_4 rib_2_1_1_1_4 cen_2_1_1_1_4 cen_4_1_4 ti_2_1_1_1 ti_2_1_1_1 sh_4_1 rp_2_1_1_1
theorem fin_1_1_1_1_1_4 : Fin 4 [1, 1, 1, 1, 1] := Fin.of (mi := 4) rfl tv_1_1_1_1_1 tv_5 tv_1 tv_1 cut_1_1_1_1_1_4 rib_1_1_1_1_1_4 cen_1_1_1_1_1_4 cen_5_4 ti_1_1_1_1_1 ti_1 sh_5 rp_1
theorem fin_6_4 : Fin 4 [6] := Fin.of (mi := 4) rfl tv_6 tv_1_1_1_1_1_1 tv_2 tv_1_1 cut_6_4 rib_6_4 cen_6_4 cen_1_1_1_1_1_1_4 ti_6 ti_2 sh_1_1_1_1_1_1 rp_2
theorem fin_5_1_4 : Fin 4 [5, 1] := Fin.of (mi := 4) rfl tv_5_1 tv_2_1_1_1_1 tv_1_1 tv_2 cut_5_1_4 rib_5_1_4 cen_5_1_4 cen_2_1_1_1_1_4 ti_5_1 ti_1_1 sh_2_1_1_1_1 rp_1_1
theorem fin_4_2_4 : Fin 4 [4, 2] := Fin.of (mi := 4) rfl tv_4_2 tv_2_2_1_1 tv_1_1 tv_2 cut_4_2_4 rib_4_2_4 cen_4_2_4 cen_2_2_1_1_4 ti_4_2 ti_1_1 sh_2_2_1_1 rp_1_1
theorem fin_4_1_1_4 : Fin 4 [4, 1, 1] := Fin.of (mi := 4) rfl tv_4_1_1 tv_3_1_1_1 tv_4_1_1 tv_3_1_1_1 cut_4_1_1_4 rib_4_1_1_4 cen_4_1_1_4 cen_3_1_1_1_4 ti_4_1_1 ti_4_1_1 sh_3_1_1_1 rp_4_1_1
theorem fin_3_3_4 : Fin 4 [3, 3] := Fin.of (mi := 4) rfl tv_3_3 tv_2_2_2 tv_2 tv_1_1 cut_3_3_4 rib_3_3_4 cen_3_3_4 cen_2_2_2_4 ti_3_3 ti_2 sh_2_2_2 rp_2
theorem fin_3_2_1_4 : Fin 4 [3, 2, 1] := Fin.of (mi := 4) rfl tv_3_2_1 tv_3_2_1 tv_3_2_1 tv_3_2_1 cut_3_2_1_4 rib_3_2_1_4 cen_3_2_1_4 cen_3_2_1_4 ti_3_2_1 ti_3_2_1 sh_3_2_1 rp_3_2_1
theorem fin_3_1_1_1_4 : Fin 4 [3, 1, 1, 1] := Fin.of (mi := 4) rfl tv_3_1_1_1 tv_4_1_1 tv_3_1_1_1 tv_4_1_1 cut_3_1_1_1_4 rib_3_1_1_1_4 cen_3_1_1_1_4 cen_4_1_1_4 ti_3_1_1_1 ti_3_1_1_1 sh_4_1_1 rp_3_1_1_1
theorem fin_2_2_2_4 : Fin 4 [2, 2, 2] := Fin.of (mi := 4) rfl tv_2_2_2 tv_3_3 tv_1_1 tv_2 cut_2_2_2_4 rib_2_2_2_4 cen_2_2_2_4 cen_3_3_4 ti_2_2_2 ti_1_1 sh_3_3 rp_1_1
theorem fin_2_2_1_1_4 : Fin 4 [2, 2, 1, 1] := Fin.of (mi := 4) rfl tv_2_2_1_1 tv_4_2 tv_2 tv_1_1 cut_2_2_1_1_4 rib_2_2_1_1_4 cen_2_2_1_1_4 cen_4_2_4 ti_2_2_1_1 ti_2 sh_4_2 rp_2
theorem fin_2_1_1_1_1_4 : Fin 4 [2, 1, 1, 1, 1] := Fin.of (mi := 4) rfl tv_2_1_1_1_1 tv_5_1 tv_2 tv_1_1 cut_2_1_1_1_1_4 rib_2_1_1_1_1_4 cen_2_1_1_1_1_4 cen_5_1_4 ti_2_1_1_1_1 ti_2 sh_5_1 rp_2
theorem fin_1_1_1_1_1_1_4 : Fin 4 [1, 1, 1, 1, 1, 1] := Fin.of (mi := 4) rfl tv_1_1_1_1_1_1 tv_6 tv_1_1 tv_2 cut_1_1_1_1_1_1_4 rib_1_1_1_1_1_1_4 cen_1_1_1_1_1_1_4 cen_6_4 ti_1_1_1_1_1_1 ti_1_1 sh_6 rp_1_1
theorem fin_7_4 : Fin 4 [7] := Fin.of (mi := 4) rfl tv_7 tv_1_1_1_1_1_1_1 tv_3 tv_1_1_1 cut_7_4 rib_7_4 cen_7_4 cen_1_1_1_1_1_1_1_4 ti_7 ti_3 sh_1_1_1_1_1_1_1 rp_3
theorem fin_6_1_4 : Fin 4 [6, 1] := Fin.of (mi := 4) rfl tv_6_1 tv_2_1_1_1_1_1 tv_2_1 tv_2_1 cut_6_1_4 rib_6_1_4 cen_6_1_4 cen_2_1_1_1_1_1_4 ti_6_1 ti_2_1 sh_2_1_1_1_1_1 rp_2_1
theorem fin_5_2_4 : Fin 4 [5, 2] := Fin.of (mi := 4) rfl tv_5_2 tv_2_2_1_1_1 tv_5_2 tv_2_2_1_1_1 cut_5_2_4 rib_5_2_4 cen_5_2_4 cen_2_2_1_1_1_4 ti_5_2 ti_5_2 sh_2_2_1_1_1 rp_5_2
theorem fin_5_1_1_4 : Fin 4 [5, 1, 1] := Fin.of (mi := 4) rfl tv_5_1_1 tv_3_1_1_1_1 tv_1_1_1 tv_3 cut_5_1_1_4 rib_5_1_1_4 cen_5_1_1_4 cen_3_1_1_1_1_4 ti_5_1_1 ti_1_1_1 sh_3_1_1_1_1 rp_1_1_1
theorem fin_4_3_4 : Fin 4 [4, 3] := Fin.of (mi := 4) rfl tv_4_3 tv_2_2_2_1 tv_2_1 tv_2_1 cut_4_3_4 rib_4_3_4 cen_4_3_4 cen_2_2_2_1_4 ti_4_3 ti_2_1 sh_2_2_2_1 rp_2_1
theorem fin_4_2_1_4 : Fin 4 [4, 2, 1] := Fin.of (mi := 4) rfl tv_4_2_1 tv_3_2_1_1 tv_1_1_1 tv_3 cut_4_2_1_4 rib_4_2_1_4 cen_4_2_1_4 cen_3_2_1_1_4 ti_4_2_1 ti_1_1_1 sh_3_2_1_1 rp_1_1_1
theorem fin_4_1_1_1_4 : Fin 4 [4, 1, 1, 1] := Fin.of (mi := 4) rfl tv_4_1_1_1 tv_4_1_1_1 tv_4_1_1_1 tv_4_1_1_1 cut_4_1_1_1_4 rib_4_1_1_1_4 cen_4_1_1_1_4 cen_4_1_1_1_4 ti_4_1_1_1 ti_4_1_1_1 sh_4_1_1_1 rp_4_1_1_1
theorem fin_3_3_1_4 : Fin 4 [3, 3, 1] := Fin.of (mi := 4) rfl tv_3_3_1 tv_3_2_2 tv_3 tv_1_1_1 cut_3_3_1_4 rib_3_3_1_4 cen_3_3_1_4 cen_3_2_2_4 ti_3_3_1 ti_3 sh_3_2_2 rp_3
theorem fin_3_2_2_4 : Fin 4 [3, 2, 2] := Fin.of (mi := 4) rfl tv_3_2_2 tv_3_3_1 tv_1_1_1 tv_3 cut_3_2_2_4 rib_3_2_2_4 cen_3_2_2_4 cen_3_3_1_4 ti_3_2_2 ti_1_1_1 sh_3_3_1 rp_1_1_1
theorem fin_3_2_1_1_4 : Fin 4 [3, 2, 1, 1] := Fin.of (mi := 4) rfl tv_3_2_1_1 tv_4_2_1 tv_3 tv_1_1_1 cut_3_2_1_1_4 rib_3_2_1_1_4 cen_3_2_1_1_4 cen_4_2_1_4 ti_3_2_1_1 ti_3 sh_4_2_1 rp_3
theorem fin_3_1_1_1_1_4 : Fin 4 [3, 1, 1, 1, 1] := Fin.of (mi := 4) rfl tv_3_1_1_1_1 tv_5_1_1 tv_3 tv_1_1_1 cut_3_1_1_1_1_4 rib_3_1_1_1_1_4 cen_3_1_1_1_1_4 cen_5_1_1_4 ti_3_1_1_1_1 ti_3 sh_5_1_1 rp_3
theorem fin_2_2_2_1_4 : Fin 4 [2, 2, 2, 1] := Fin.of (mi := 4) rfl tv_2_2_2_1 tv_4_3 tv_2_1 tv_2_1 cut_2_2_2_1_4 rib_2_2_2_1_4 cen_2_2_2_1_4 cen_4_3_4 ti_2_2_2_1 ti_2_1 sh_4_3 rp_2_1
theorem fin_2_2_1_1_1_4 : Fin 4 [2, 2, 1, 1, 1] := Fin.of (mi := 4) rfl tv_2_2_1_1_1 tv_5_2 tv_2_2_1_1_1 tv_5_2 cut_2_2_1_1_1_4 rib_2_2_1_1_1_4 cen_2_2_1_1_1_4 cen_5_2_4 ti_2_2_1_1_1 ti_2_2_1_1_1 sh_5_2 rp_2_2_1_1_1
theorem fin_2_1_1_1_1_1_4 : Fin 4 [2, 1, 1, 1, 1, 1] := Fin.of (mi := 4) rfl tv_2_1_1_1_1_1 tv_6_1 tv_2_1 tv_2_1 cut_2_1_1_1_1_1_4 rib_2_1_1_1_1_1_4 cen_2_1_1_1_1_1_4 cen_6_1_4 ti_2_1_1_1_1_1 ti_2_1 sh_6_1 rp_2_1
theorem fin_1_1_1_1_1_1_1_4 : Fin 4 [1, 1, 1, 1, 1, 1, 1] := Fin.of (mi := 4) rfl tv_1_1_1_1_1_1_1 tv_7 tv_1_1_1 tv_3 cut_1_1_1_1_1_1_1_4 rib_1_1_1_1_1_1_1_4 cen_1_1_1_1_1_1_1_4 cen_7_4 ti_1_1_1_1_1_1_1 ti_1_1_1 sh_7 rp_1_1_1
theorem fins_4_0 : ∀ s ∈ ([[]] : List (List Nat)), Fin 4 s := List.forall_mem_cons.mpr ⟨fin_e_4, fun _ h => nomatch h⟩
theorem fins_4_1 : ∀ s ∈ ([[1]] : List (List Nat)), Fin 4 s := List.forall_mem_cons.mpr ⟨fin_1_4, fun _ h => nomatch h⟩
theorem fins_4_2 : ∀ s ∈ ([[1, 1], [2]] : List (List Nat)), Fin 4 s := List.forall_mem_cons.mpr ⟨fin_1_1_4, List.forall_mem_cons.mpr ⟨fin_2_4, fun _ h => nomatch h⟩⟩
theorem fins_4_3 : ∀ s ∈ ([[1, 1, 1], [2, 1], [3]] : List (List Nat)), Fin 4 s := List.forall_mem_cons.mpr ⟨fin_1_1_1_4, List.forall_mem_cons.mpr ⟨fin_2_1_4, List.forall_mem_cons.mpr ⟨fin_3_4, fun _ h => nomatch h⟩⟩⟩
theorem fins_4_4 : ∀ s ∈ ([[1, 1, 1, 1], [2, 1, 1], [2, 2], [3, 1], [4]] : List (List Nat)), Fin 4 s := List.forall_mem_cons.mpr ⟨fin_1_1_1_1_4, List.forall_mem_cons.mpr ⟨fin_2_1_1_4, List.forall_mem_cons.mpr ⟨fin_2_2_4, List.forall_mem_cons.mpr ⟨fin_3_1_4, List.forall_mem_cons.mpr ⟨fin_4_4, fun _ h => nomatch h⟩⟩⟩⟩⟩
theorem fins_4_5 : ∀ s ∈ ([[1, 1, 1, 1, 1], [2, 1, 1, 1], [2, 2, 1], [3, 1, 1], [3, 2], [4, 1], [5]] : List (List Nat)), Fin 4 s := List.forall_mem_cons.mpr ⟨fin_1_1_1_1_1_4, List.forall_mem_cons.mpr ⟨fin_2_1_1_1_4, List.forall_mem_cons.mpr ⟨fin_2_2_1_4, List.forall_mem_cons.mpr ⟨fin_3_1_1_4, List.forall_mem_cons.mpr ⟨fin_3_2_4, List.forall_mem_cons.mpr ⟨fin_4_1_4, List.forall_mem_cons.mpr ⟨fin_5_4, fun _ h => nomatch h⟩⟩⟩⟩⟩⟩⟩
theorem fins_4_6 : ∀ s ∈ ([[1, 1, 1, 1, 1, 1], [2, 1, 1, 1, 1], [2, 2, 1, 1], [2, 2, 2], [3, 1, 1, 1], [3, 2, 1], [3, 3], [4, 1, 1], [4, 2], [5, 1], [6]] : List (List Nat)), Fin 4 s := List.forall_mem_cons.mpr ⟨fin_1_1_1_1_1_1_4, List.forall_mem_cons.mpr ⟨fin_2_1_1_1_1_4, List.forall_mem_cons.mpr ⟨fin_2_2_1_1_4, List.forall_mem_cons.mpr ⟨fin_2_2_2_4, List.forall_mem_cons.mpr ⟨fin_3_1_1_1_4, List.forall_mem_cons.mpr ⟨fin_3_2_1_4, List.forall_mem_cons.mpr ⟨fin_3_3_4, List.forall_mem_cons.mpr ⟨fin_4_1_1_4, List.forall_mem_cons.mpr ⟨fin_4_2_4, List.forall_mem_cons.mpr ⟨fin_5_1_4, List.forall_mem_cons.mpr ⟨fin_6_4, fun _ h => nomatch h⟩⟩⟩⟩⟩⟩⟩⟩⟩⟩⟩
theorem fins_4_7 : ∀ s ∈ ([[1, 1, 1, 1, 1, 1, 1], [2, 1, 1, 1, 1, 1], [2, 2, 1, 1, 1], [2, 2, 2, 1], [3, 1, 1, 1, 1], [3, 2, 1, 1], [3, 2, 2], [3, 3, 1], [4, 1, 1, 1], [4, 2, 1], [4, 3], [5, 1, 1], [5, 2], [6, 1], [7]] : List (List Nat)), Fin 4 s := List.forall_mem_cons.mpr ⟨fin_1_1_1_1_1_1_1_4, List.forall_mem_cons.mpr ⟨fin_2_1_1_1_1_1_4, List.forall_mem_cons.mpr ⟨fin_2_2_1_1_1_4, List.forall_mem_cons.mpr ⟨fin_2_2_2_1_4, List.forall_mem_cons.mpr ⟨fin_3_1_1_1_1_4, List.forall_mem_cons.mpr ⟨fin_3_2_1_1_4, List.forall_mem_cons.mpr ⟨fin_3_2_2_4, List.forall_mem_cons.mpr ⟨fin_3_3_1_4, List.forall_mem_cons.mpr ⟨fin_4_1_1_1_4, List.forall_mem_cons.mpr ⟨fin_4_2_1_4, List.forall_mem_cons.mpr ⟨fin_4_3_4, List.forall_mem_cons.mpr ⟨fin_5_1_1_4, List.forall_mem_cons.mpr ⟨fin_5_2_4, List.forall_mem_cons.mpr ⟨fin_6_1_4, List.forall_mem_cons.mpr ⟨fin_7_4, fun _ h => nomatch h⟩⟩⟩⟩⟩⟩⟩⟩⟩⟩⟩⟩⟩⟩⟩
theorem fin_e_5 : Fin 5 [] := Fin.of (mi := 5) rfl tv_e tv_e tv_e tv_e cut_e_5 rib_e_5 cen_e_5 cen_e_5 ti_e ti_e sh_e rp_e
theorem fin_1_5 : Fin 5 [1] := Fin.of (mi := 5) rfl tv_1 tv_1 tv_1 tv_1 cut_1_5 rib_1_5 cen_1_5 cen_1_5 ti_1 ti_1 sh_1 rp_1
theorem fin_2_5 : Fin 5 [2] := Fin.of (mi := 5) rfl tv_2 tv_1_1 tv_2 tv_1_1 cut_2_5 rib_2_5 cen_2_5 cen_1_1_5 ti_2 ti_2 sh_1_1 rp_2
theorem fin_1_1_5 : Fin 5 [1, 1] := Fin.of (mi := 5) rfl tv_1_1 tv_2 tv_1_1 tv_2 cut_1_1_5 rib_1_1_5 cen_1_1_5 cen_2_5 ti_1_1 ti_1_1 sh_2 rp_1_1
theorem fin_3_5 : Fin 5 [3] := Fin.of (mi := 5) rfl tv_3 tv_1_1_1 tv_3 tv_1_1_1 cut_3_5 rib_3_5 cen_3_5 cen_1_1_1_5 ti_3 ti_3 sh_1_1_1 rp_3
theorem fin_2_1_5 : Fin 5 [2, 1] := Fin.of (mi := 5) rfl tv_2_1 tv_2_1 tv_2_1 tv_2_1 cut_2_1_5 rib_2_1_5 cen_2_1_5 cen_2_1_5 ti_2_1 ti_2_1 sh_2_1 rp_2_1
theorem fin_1_1_1_5 : Fin 5 [1, 1, 1] := Fin.of (mi := 5) rfl tv_1_1_1 tv_3 tv_1_1_1 tv_3 cut_1_1_1_5 rib_1_1_1_5 cen_1_1_1_5 cen_3_5 ti_1_1_1 ti_1_1_1 sh_3 rp_1_1_1
theorem fin_4_5 : Fin 5 [4] := Fin.of (mi := 5) rfl tv_4 tv_1_1_1_1 tv_4 tv_1_1_1_1 cut_4_5 rib_4_5 cen_4_5 cen_1_1_1_1_5 ti_4 ti_4 sh_1_1_1_1 rp_4
theorem fin_3_1_5 : Fin 5 [3, 1] := Fin.of (mi := 5) rfl tv_3_1 tv_2_1_1 tv_3_1 tv_2_1_1 cut_3_1_5 rib_3_1_5 cen_3_1_5 cen_2_1_1_5 ti_3_1 ti_3_1 sh_2_1_1 rp_3_1
theorem fin_2_2_5 : Fin 5 [2, 2] := Fin.of (mi := 5) rfl tv_2_2 tv_2_2 tv_2_2 tv_2_2 cut_2_2_5 rib_2_2_5 cen_2_2_5 cen_2_2_5 ti_2_2 ti_2_2 sh_2_2 rp_2_2
theorem fin_2_1_1_5 : Fin 5 [2, 1, 1] := Fin.of (mi := 5) rfl tv_2_1_1 tv_3_1 tv_2_1_1 tv_3_1 cut_2_1_1_5 rib_2_1_1_5 cen_2_1_1_5 cen_3_1_5 ti_2_1_1 ti_2_1_1 sh_3_1 rp_2_1_1
theorem fin_1_1_1_1_5 : Fin 5 [1, 1, 1, 1] := Fin.of (mi := 5) rfl tv_1_1_1_1 tv_4 tv_1_1_1_1 tv_4 cut_1_1_1_1_5 rib_1_1_1_1_5 cen_1_1_1_1_5 cen_4_5 ti_1_1_1_1 ti_1_1_1_1 sh_4 rp_1_1_1_1
theorem fin_5_5 : Fin 5 [5] := Fin.of (mi := 5) rfl tv_5 tv_1_1_1_1_1 tv_e tv_e cut_5_5 rib_5_5 cen_5_5 cen_1_1_1_1_1_5 ti_5 ti_e sh_1_1_1_1_1 rp_e
theorem fin_4_1_5 : Fin 5 [4, 1] := Fin.of (mi := 5) rfl tv_4_1 tv_2_1_1_1 tv_e tv_e cut_4_1_5 rib_4_1_5 cen_4_1_5 cen_2_1_1_1_5 ti_4_1 ti_e sh_2_1_1_1 rp_e
theorem fin_3_2_5 : Fin 5 [3, 2] := Fin.of (mi := 5) rfl tv_3_2 tv_2_2_1 tv_3_2 tv_2_2_1 cut_3_2_5 rib_3_2_5 cen_3_2_5 cen_2_2_1_5 ti_3_2 ti_3_2 sh_2_2_1 rp_3_2
theorem fin_3_1_1_5 : Fin 5 [3, 1, 1] := Fin.of (mi := 5) rfl tv_3_1_1 tv_3_1_1 tv_e tv_e cut_3_1_1_5 rib_3_1_1_5 cen_3_1_1_5 cen_3_1_1_5 ti_3_1_1 ti_e sh_3_1_1 rp_e
theorem fin_2_2_1_5 : Fin 5 [2, 2, 1] := Fin.of (mi := 5) rfl tv_2_2_1 tv_3_2 tv_2_2_1 tv_3_2 cut_2_2_1_5 rib_2_2_1_5 cen_2_2_1_5 cen_3_2_5 ti_2_2_1 ti_2_2_1 sh_3_2 rp_2_2_1
theorem fin_2_1_1_1_5 : Fin 5 [2, 1, 1, 1] := Fin.of (mi := 5) rfl tv_2_1_1_1 tv_4_1 tv_e tv_e cut_2_1_1_1_5 rib_2_1_1_1_5 cen_2_1_1_1_5 cen_4_1_5 ti_2_1_1_1 ti_e sh_4_1 rp_e
theorem fin_1_1_1_1_1_5 : Fin 5 [1, 1, 1, 1, 1] := Fin.of (mi := 5) rfl tv_1_1_1_1_1 tv_5 tv_e tv_e cut_1_1_1_1_1_5 rib_1_1_1_1_1_5 cen_1_1_1_1_1_5 cen_5_5 ti_1_1_1_1_1 ti_e sh_5 rp_e
theorem fin_6_5 : Fin 5 [6] := Fin.of (mi := 5) rfl tv_6 tv_1_1_1_1_1_1 tv_1 tv_1 cut_6_5 rib_6_5 cen_6_5 cen_1_1_1_1_1_1_5 ti_6 ti_1 sh_1_1_1_1_1_1 rp_1
theorem fin_5_1_5 : Fin 5 [5, 1] := Fin.of (mi := 5) rfl tv_5_1 tv_2_1_1_1_1 tv_5_1 tv_2_1_1_1_1 cut_5_1_5 rib_5_1_5 cen_5_1_5 cen_2_1_1_1_1_5 ti_5_1 ti_5_1 sh_2_1_1_1_1 rp_5_1
theorem fin_4_2_5 : Fin 5 [4, 2] := Fin.of (mi := 5) rfl tv_4_2 tv_2_2_1_1 tv_1 tv_1 cut_4_2_5 rib_4_2_5 cen_4_2_5 cen_2_2_1_1_5 ti_4_2 ti_1 sh_2_2_1_1 rp_1
theorem fin_4_1_1_5 : Fin 5 [4, 1, 1] := Fin.of (mi := 5) rfl tv_4_1_1 tv_3_1_1_1 tv_4_1_1 tv_3_1_1_1 cut_4_1_1_5 rib_4_1_1_5 cen_4_1_1_5 cen_3_1_1_1_5 ti_4_1_1 ti_4_1_1 sh_3_1_1_1 rp_4_1_1
theorem fin_3_3_5 : Fin 5 [3, 3] := Fin.of (mi := 5) rfl tv_3_3 tv_2_2_2 tv_3_3 tv_2_2_2 cut_3_3_5 rib_3_3_5 cen_3_3_5 cen_2_2_2_5 ti_3_3 ti_3_3 sh_2_2_2 rp_3_3
theorem fin_3_2_1_5 : Fin 5 [3, 2, 1] := Fin.of (mi := 5) rfl tv_3_2_1 tv_3_2_1 tv_1 tv_1 cut_3_2_1_5 rib_3_2_1_5 cen_3_2_1_5 cen_3_2_1_5 ti_3_2_1 ti_1 sh_3_2_1 rp_1
theorem fin_3_1_1_1_5 : Fin 5 [3, 1, 1, 1] := Fin.of (mi := 5) rfl tv_3_1_1_1 tv_4_1_1 tv_3_1_1_1 tv_4_1_1 cut_3_1_1_1_5 rib_3_1_1_1_5 cen_3_1_1_1_5 cen_4_1_1_5 ti_3_1_1_1 ti_3_1_1_1 sh_4_1_1 rp_3_1_1_1
theorem fin_2_2_2_5 : Fin 5 [2, 2, 2] := Fin.of (mi := 5) rfl tv_2_2_2 tv_3_3 tv_2_2_2 tv_3_3 cut_2_2_2_5 rib_2_2_2_5 cen_2_2_2_5 cen_3_3_5 ti_2_2_2 ti_2_2_2 sh_3_3 rp_2_2_2
theorem fin_2_2_1_1_5 : Fin 5 [2, 2, 1, 1] := Fin.of (mi := 5) rfl tv_2_2_1_1 tv_4_2 tv_1 tv_1 cut_2_2_1_1_5 rib_2_2_1_1_5 cen_2_2_1_1_5 cen_4_2_5 ti_2_2_1_1 ti_1 sh_4_2 rp_1
theorem fin_2_1_1_1_1_5 : Fin 5 [2, 1, 1, 1, 1] := Fin.of (mi := 5) rfl tv_2_1_1_1_1 tv_5_1 tv_2_1_1_1_1 tv_5_1 cut_2_1_1_1_1_5 rib_2_1_1_1_1_5 cen_2_1_1_1_1_5 cen_5_1_5 ti_2_1_1_1_1 ti_2_1_1_1_1 sh_5_1 rp_2_1_1_1_1
theorem fin_1_1_1_1_1_1_5 : Fin 5 [1, 1, 1, 1, 1, 1] := Fin.of (mi := 5) rfl tv_1_1_1_1_1_1 tv_6 tv_1 tv_1 cut_1_1_1_1_1_1_5 rib_1_1_1_1_1_1_5 cen_1_1_1_1_1_1_5 cen_6_5 ti_1_1_1_1_1_1 ti_1 sh_6 rp_1
theorem fin_7_5 : Fin 5 [7] := Fin.of (mi := 5) rfl tv_7 tv_1_1_1_1_1_1_1 tv_2 tv_1_1 cut_7_5 rib_7_5 cen_7_5 cen_1_1_1_1_1_1_1_5 ti_7 ti_2 sh_1_1_1_1_1_1_1 rp_2
theorem fin_6_1_5 : Fin 5 [6, 1] := Fin.of (mi := 5) rfl tv_6_1 tv_2_1_1_1_1_1 tv_1_1 tv_2 cut_6_1_5 rib_6_1_5 cen_6_1_5 cen_2_1_1_1_1_1_5 ti_6_1 ti_1_1 sh_2_1_1_1_1_1 rp_1_1
theorem fin_5_2_5 : Fin 5 [5, 2] := Fin.of (mi := 5) rfl tv_5_2 tv_2_2_1_1_1 tv_1_1 tv_2 cut_5_2_5 rib_5_2_5 cen_5_2_5 cen_2_2_1_1_1_5 ti_5_2 ti_1_1 sh_2_2_1_1_1 rp_1_1
theorem fin_5_1_1_5 : Fin 5 [5, 1, 1] := Fin.of (mi := 5) rfl tv_5_1_1 tv_3_1_1_1_1 tv_5_1_1 tv_3_1_1_1_1 cut_5_1_1_5 rib_5_1_1_5 cen_5_1_1_5 cen_3_1_1_1_1_5 ti_5_1_1 ti_5_1_1 sh_3_1_1_1_1 rp_5_1_1
theorem fin_4_3_5 : Fin 5 [4, 3] := Fin.of (mi := 5) rfl tv_4_3 tv_2_2_2_1 tv_2 tv_1_1 cut_4_3_5 rib_4_3_5 cen_4_3_5 cen_2_2_2_1_5 ti_4_3 ti_2 sh_2_2_2_1 rp_2
theorem fin_4_2_1_5 : Fin 5 [4, 2, 1] := Fin.of (mi := 5) rfl tv_4_2_1 tv_3_2_1_1 tv_4_2_1 tv_3_2_1_1 cut_4_2_1_5 rib_4_2_1_5 cen_4_2_1_5 cen_3_2_1_1_5 ti_4_2_1 ti_4_2_1 sh_3_2_1_1 rp_4_2_1
theorem fin_4_1_1_1_5 : Fin 5 [4, 1, 1, 1] := Fin.of (mi := 5) rfl tv_4_1_1_1 tv_4_1_1_1 tv_4_1_1_1 tv_4_1_1_1 cut_4_1_1_1_5 rib_4_1_1_1_5 cen_4_1_1_1_5 cen_4_1_1_1_5 ti_4_1_1_1 ti_4_1_1_1 sh_4_1_1_1 rp_4_1_1_1
theorem fin_3_3_1_5 : Fin 5 [3, 3, 1] := Fin.of (mi := 5) rfl tv_3_3_1 tv_3_2_2 tv_2 tv_1_1 cut_3_3_1_5 rib_3_3_1_5 cen_3_3_1_5 cen_3_2_2_5 ti_3_3_1 ti_2 sh_3_2_2 rp_2
theorem fin_3_2_2_5 : Fin 5 [3, 2, 2] := Fin.of (mi := 5) rfl tv_3_2_2 tv_3_3_1 tv_1_1 tv_2 cut_3_2_2_5 rib_3_2_2_5 cen_3_2_2_5 cen_3_3_1_5 ti_3_2_2 ti_1_1 sh_3_3_1 rp_1_1
theorem fin_3_2_1_1_5 : Fin 5 [3, 2, 1, 1] := Fin.of (mi := 5) rfl tv_3_2_1_1 tv_4_2_1 tv_3_2_1_1 tv_4_2_1 cut_3_2_1_1_5 rib_3_2_1_1_5 cen_3_2_1_1_5 cen_4_2_1_5 ti_3_2_1_1 ti_3_2_1_1 sh_4_2_1 rp_3_2_1_1
theorem fin_3_1_1_1_1_5 : Fin 5 [3, 1, 1, 1, 1] := Fin.of (mi := 5) rfl tv_3_1_1_1_1 tv_5_1_1 tv_3_1_1_1_1 tv_5_1_1 cut_3_1_1_1_1_5 rib_3_1_1_1_1_5 cen_3_1_1_1_1_5 cen_5_1_1_5 ti_3_1_1_1_1 ti_3_1_1_1_1 sh_5_1_1 rp_3_1_1_1_1
theorem fin_2_2_2_1_5 : Fin 5 [2, 2, 2, 1] := Fin.of (mi := 5) rfl tv_2_2_2_1 tv_4_3 tv_1_1 tv_2 cut_2_2_2_1_5 rib_2_2_2_1_5 cen_2_2_2_1_5 cen_4_3_5 ti_2_2_2_1 ti_1_1 sh_4_3 rp_1_1
theorem fin_2_2_1_1_1_5 : Fin 5 [2, 2, 1, 1, 1] := Fin.of (mi := 5) rfl tv_2_2_1_1_1 tv_5_2 tv_2 tv_1_1 cut_2_2_1_1_1_5 rib_2_2_1_1_1_5 cen_2_2_1_1_1_5 cen_5_2_5 ti_2_2_1_1_1 ti_2 sh_5_2 rp_2
theorem fin_2_1_1_1_1_1_5 : Fin 5 [2, 1, 1, 1, 1, 1] := Fin.of (mi := 5) rfl tv_2_1_1_1_1_1 tv_6_1 tv_2 tv_1_1 cut_2_1_1_1_1_1_5 rib_2_1_1_1_1_1_5 cen_2_1_1_1_1_1_5 cen_6_1_5 ti_2_1_1_1_1_1 ti_2 sh_6_1 rp_2
theorem fin_1_1_1_1_1_1_1_5 : Fin 5 [1, 1, 1, 1, 1, 1, 1] := Fin.of (mi := 5) rfl tv_1_1_1_1_1_1_1 tv_7 tv_1_1 tv_2 cut_1_1_1_1_1_1_1_5 rib_1_1_1_1_1_1_1_5 cen_1_1_1_1_1_1_1_5 cen_7_5 ti_1_1_1_1_1_1_1 ti_1_1 sh_7 rp_1_1
theorem fins_5_0 : ∀ s ∈ ([[]] : List (List Nat)), Fin 5 s := List.forall_mem_cons.mpr ⟨fin_e_5, fun _ h => nomatch h⟩
theorem fins_5_1 : ∀ s ∈ ([[1]] : List (List Nat)), Fin 5 s := List.forall_mem_cons.mpr ⟨fin_1_5, fun _ h => nomatch h⟩
theorem fins_5_2 : ∀ s ∈ ([[1, 1], [2]] : List (List Nat)), Fin 5 s := List.forall_mem_cons.mpr ⟨fin_1_1_5, List.forall_mem_cons.mpr ⟨fin_2_5, fun _ h => nomatch h⟩⟩
theorem fins_5_3 : ∀ s ∈ ([[1, 1, 1], [2, 1], [3]] : List (List Nat)), Fin 5 s := List.forall_mem_cons.mpr ⟨fin_1_1_1_5, List.forall_mem_cons.mpr ⟨fin_2_1_5, List.forall_mem_cons.mpr ⟨fin_3_5, fun _ h => nomatch h⟩⟩⟩
theorem fins_5_4 : ∀ s ∈ ([[1, 1, 1, 1], [2, 1, 1], [2, 2], [3, 1], [4]] : List (List Nat)), Fin 5 s := List.forall_mem_cons.mpr ⟨fin_1_1_1_1_5, List.forall_mem_cons.mpr ⟨fin_2_1_1_5, List.forall_mem_cons.mpr ⟨fin_2_2_5, List.forall_mem_cons.mpr ⟨fin_3_1_5, List.forall_mem_cons.mpr ⟨fin_4_5, fun _ h => nomatch h⟩⟩⟩⟩⟩
theorem fins_5_5 : ∀ s ∈ ([[1, 1, 1, 1, 1], [2, 1, 1, 1], [2, 2, 1], [3, 1, 1], [3, 2], [4, 1], [5]] : List (List Nat)), Fin 5 s := List.forall_mem_cons.mpr ⟨fin_1_1_1_1_1_5, List.forall_mem_cons.mpr ⟨fin_2_1_1_1_5, List.forall_mem_cons.mpr ⟨fin_2_2_1_5, List.forall_mem_cons.mpr ⟨fin_3_1_1_5, List.forall_mem_cons.mpr ⟨fin_3_2_5, List.forall_mem_cons.mpr ⟨fin_4_1_5, List.forall_mem_cons.mpr ⟨fin_5_5, fun _ h => nomatch h⟩⟩⟩⟩⟩⟩⟩
theorem fins_5_6 : ∀ s ∈ ([[1, 1, 1, 1, 1, 1], [2, 1, 1, 1, 1], [2, 2, 1, 1], [2, 2, 2], [3, 1, 1, 1], [3, 2, 1], [3, 3], [4, 1, 1], [4, 2], [5, 1], [6]] : List (List Nat)), Fin 5 s := List.forall_mem_cons.mpr ⟨fin_1_1_1_1_1_1_5, List.forall_mem_cons.mpr ⟨fin_2_1_1_1_1_5, List.forall_mem_cons.mpr ⟨fin_2_2_1_1_5, List.forall_mem_cons.mpr ⟨fin_2_2_2_5, List.forall_mem_cons.mpr ⟨fin_3_1_1_1_5, List.forall_mem_cons.mpr ⟨fin_3_2_1_5, List.forall_mem_cons.mpr ⟨fin_3_3_5, List.forall_mem_cons.mpr ⟨fin_4_1_1_5, List.forall_mem_cons.mpr ⟨fin_4_2_5, List.forall_mem_cons.mpr ⟨fin_5_1_5, List.forall_mem_cons.mpr ⟨fin_6_5, fun _ h => nomatch h⟩⟩⟩⟩⟩⟩⟩⟩⟩⟩⟩
theorem fins_5_7 : ∀ s ∈ ([[1, 1, 1, 1, 1, 1, 1], [2, 1, 1, 1, 1, 1], [2, 2, 1, 1, 1], [2, 2, 2, 1], [3, 1, 1, 1, 1], [3, 2, 1, 1], [3, 2, 2], [3, 3, 1], [4, 1, 1, 1], [4, 2, 1], [4, 3], [5, 1, 1], [5, 2], [6, 1], [7]] : List (List Nat)), Fin 5 s := List.forall_mem_cons.mpr ⟨fin_1_1_1_1_1_1_1_5, List.forall_mem_cons.mpr ⟨fin_2_1_1_1_1_1_5, List.forall_mem_cons.mpr ⟨fin_2_2_1_1_1_5, List.forall_mem_cons.mpr ⟨fin_2_2_2_1_5, List.forall_mem_cons.mpr ⟨fin_3_1_1_1_1_5, List.forall_mem_cons.mpr ⟨fin_3_2_1_1_5, List.forall_mem_cons.mpr ⟨fin_3_2_2_5, List.forall_mem_cons.mpr ⟨fin_3_3_1_5, List.forall_mem_cons.mpr ⟨fin_4_1_1_1_5, List.forall_mem_cons.mpr ⟨fin_4_2_1_5, List.forall_mem_cons.mpr ⟨fin_4_3_5, List.forall_mem_cons.mpr ⟨fin_5_1_1_5, List.forall_mem_cons.mpr ⟨fin_5_2_5, List.forall_mem_cons.mpr ⟨fin_6_1_5, List.forall_mem_cons.mpr ⟨fin_7_5, fun _ h => nomatch h⟩⟩⟩⟩⟩⟩⟩⟩⟩⟩⟩⟩⟩⟩⟩
theorem all_0 : allP 7 0 7 = [[]] := by decide +kernel
theorem all_1 : allP 7 1 7 = [[1]] := by decide +kernel
theorem all_2 : allP 7 2 7 = [[1, 1], [2]] := by decide +kernel
theorem all_3 : allP 7 3 7 = [[1, 1, 1], [2, 1], [3]] := by decide +kernel
theorem all_4 : allP 7 4 7 = [[1, 1, 1, 1], [2, 1, 1], [2, 2], [3, 1], [4]] := by decide +kernel
theorem all_5 : allP 7 5 7 = [[1, 1, 1, 1, 1], [2, 1, 1, 1], [2, 2, 1], [3, 1, 1], [3, 2], [4, 1], [5]] := by decide +kernel
theorem all_6 : allP 7 6 7 = [[1, 1, 1, 1, 1, 1], [2, 1, 1, 1, 1], [2, 2, 1, 1], [2, 2, 2], [3, 1, 1, 1], [3, 2, 1], [3, 3], [4, 1, 1], [4, 2], [5, 1], [6]] := by decide +kernel
theorem all_7 : allP 7 7 7 = [[1, 1, 1, 1, 1, 1, 1], [2, 1, 1, 1, 1, 1], [2, 2, 1, 1, 1], [2, 2, 2, 1], [3, 1, 1, 1, 1], [3, 2, 1, 1], [3, 2, 2], [3, 3, 1], [4, 1, 1, 1], [4, 2, 1], [4, 3], [5, 1, 1], [5, 2], [6, 1], [7]] := by decide +kernel
theorem fina_1 (s : List Nat) (hs : Sh s) (h7 : s.sum ≤ 7) : Fin 1 s := by
  have hc : s.sum = 0 ∨ s.sum = 1 ∨ s.sum = 2 ∨ s.sum = 3 ∨ s.sum = 4 ∨ s.sum = 5 ∨ s.sum = 6 ∨ s.sum = 7 := by omega
  rcases hc with h | h | h | h | h | h | h | h
  · exact fins_1_0 s (all_0 ▸ in_all hs h (by decide))
  · exact fins_1_1 s (all_1 ▸ in_all hs h (by decide))
  · exact fins_1_2 s (all_2 ▸ in_all hs h (by decide))
  · exact fins_1_3 s (all_3 ▸ in_all hs h (by decide))
  · exact fins_1_4 s (all_4 ▸ in_all hs h (by decide))
  · exact fins_1_5 s (all_5 ▸ in_all hs h (by decide))
  · exact fins_1_6 s (all_6 ▸ in_all hs h (by decide))
  · exact fins_1_7 s (all_7 ▸ in_all hs h (by decide))
theorem fina_2 (s : List Nat) (hs : Sh s) (h7 : s.sum ≤ 7) : Fin 2 s := by
  have hc : s.sum = 0 ∨ s.sum = 1 ∨ s.sum = 2 ∨ s.sum = 3 ∨ s.sum = 4 ∨ s.sum = 5 ∨ s.sum = 6 ∨ s.sum = 7 := by omega
  rcases hc with h | h | h | h | h | h | h | h
  · exact fins_2_0 s (all_0 ▸ in_all hs h (by decide))
  · exact fins_2_1 s (all_1 ▸ in_all hs h (by decide))
  · exact fins_2_2 s (all_2 ▸ in_all hs h (by decide))
  · exact fins_2_3 s (all_3 ▸ in_all hs h (by decide))
  · exact fins_2_4 s (all_4 ▸ in_all hs h (by decide))
  · exact fins_2_5 s (all_5 ▸ in_all hs h (by decide))
  · exact fins_2_6 s (all_6 ▸ in_all hs h (by decide))
  · exact fins_2_7 s (all_7 ▸ in_all hs h (by decide))
theorem fina_3 (s : List Nat) (hs : Sh s) (h7 : s.sum ≤ 7) : Fin 3 s := by
  have hc : s.sum = 0 ∨ s.sum = 1 ∨ s.sum = 2 ∨ s.sum = 3 ∨ s.sum = 4 ∨ s.sum = 5 ∨ s.sum = 6 ∨ s.sum = 7 := by omega
  rcases hc with h | h | h | h | h | h | h | h
  · exact fins_3_0 s (all_0 ▸ in_all hs h (by decide))
  · exact fins_3_1 s (all_1 ▸ in_all hs h (by decide))
  · exact fins_3_2 s (all_2 ▸ in_all hs h (by decide))
  · exact fins_3_3 s (all_3 ▸ in_all hs h (by decide))
  · exact fins_3_4 s (all_4 ▸ in_all hs h (by decide))
  · exact fins_3_5 s (all_5 ▸ in_all hs h (by decide))
  · exact fins_3_6 s (all_6 ▸ in_all hs h (by decide))
  · exact fins_3_7 s (all_7 ▸ in_all hs h (by decide))
theorem fina_4 (s : List Nat) (hs : Sh s) (h7 : s.sum ≤ 7) : Fin 4 s := by
  have hc : s.sum = 0 ∨ s.sum = 1 ∨ s.sum = 2 ∨ s.sum = 3 ∨ s.sum = 4 ∨ s.sum = 5 ∨ s.sum = 6 ∨ s.sum = 7 := by omega
  rcases hc with h | h | h | h | h | h | h | h
  · exact fins_4_0 s (all_0 ▸ in_all hs h (by decide))
  · exact fins_4_1 s (all_1 ▸ in_all hs h (by decide))
  · exact fins_4_2 s (all_2 ▸ in_all hs h (by decide))
  · exact fins_4_3 s (all_3 ▸ in_all hs h (by decide))
  · exact fins_4_4 s (all_4 ▸ in_all hs h (by decide))
  · exact fins_4_5 s (all_5 ▸ in_all hs h (by decide))
  · exact fins_4_6 s (all_6 ▸ in_all hs h (by decide))
  · exact fins_4_7 s (all_7 ▸ in_all hs h (by decide))
theorem fina_5 (s : List Nat) (hs : Sh s) (h7 : s.sum ≤ 7) : Fin 5 s := by
  have hc : s.sum = 0 ∨ s.sum = 1 ∨ s.sum = 2 ∨ s.sum = 3 ∨ s.sum = 4 ∨ s.sum = 5 ∨ s.sum = 6 ∨ s.sum = 7 := by omega
  rcases hc with h | h | h | h | h | h | h | h
  · exact fins_5_0 s (all_0 ▸ in_all hs h (by decide))
  · exact fins_5_1 s (all_1 ▸ in_all hs h (by decide))
  · exact fins_5_2 s (all_2 ▸ in_all hs h (by decide))
  · exact fins_5_3 s (all_3 ▸ in_all hs h (by decide))
  · exact fins_5_4 s (all_4 ▸ in_all hs h (by decide))
  · exact fins_5_5 s (all_5 ▸ in_all hs h (by decide))
  · exact fins_5_6 s (all_6 ▸ in_all hs h (by decide))
  · exact fins_5_7 s (all_7 ▸ in_all hs h (by decide))
theorem fin_all (m : Nat) (h1 : 1 ≤ m) (h2 : m ≤ 5) : ∀ s : List Nat, Sh s → s.sum ≤ 7 → Fin m s := by
  have hc : m = 1 ∨ m = 2 ∨ m = 3 ∨ m = 4 ∨ m = 5 := by omega
  rcases hc with rfl | rfl | rfl | rfl | rfl
  · exact fina_1
  · exact fina_2
  · exact fina_3
  · exact fina_4
  · exact fina_5
def forms0 : List PV := [.tup []]
theorem forms0_eq (S : Sto) : f_l_forms [.int 0] S = .ok (.lst forms0, S) := by kernel_rfl
theorem shs0 : ∀ v ∈ forms0, ∃ s : List Nat, v = tI s ∧ Sh s ∧ s.sum ≤ 7 := List.forall_mem_cons.mpr ⟨⟨[], rfl, sh_e, by decide⟩, fun _ h => nomatch h⟩
def forms1 : List PV := [.tup [.int 1]]
theorem forms1_eq (S : Sto) : f_l_forms [.int 1] S = .ok (.lst forms1, S) := by kernel_rfl
theorem shs1 : ∀ v ∈ forms1, ∃ s : List Nat, v = tI s ∧ Sh s ∧ s.sum ≤ 7 := List.forall_mem_cons.mpr ⟨⟨[1], rfl, sh_1, by decide⟩, fun _ h => nomatch h⟩
def forms2 : List PV := [.tup [.int 2], .tup [.int 1, .int 1]]
theorem forms2_eq (S : Sto) : f_l_forms [.int 2] S = .ok (.lst forms2, S) := by kernel_rfl
theorem shs2 : ∀ v ∈ forms2, ∃ s : List Nat, v = tI s ∧ Sh s ∧ s.sum ≤ 7 := List.forall_mem_cons.mpr ⟨⟨[2], rfl, sh_2, by decide⟩, List.forall_mem_cons.mpr ⟨⟨[1, 1], rfl, sh_1_1, by decide⟩, fun _ h => nomatch h⟩⟩
def forms3 : List PV := [.tup [.int 3], .tup [.int 2, .int 1], .tup [.int 1, .int 1, .int 1]]
theorem forms3_eq (S : Sto) : f_l_forms [.int 3] S = .ok (.lst forms3, S) := by kernel_rfl
theorem shs3 : ∀ v ∈ forms3, ∃ s : List Nat, v = tI s ∧ Sh s ∧ s.sum ≤ 7 := List.forall_mem_cons.mpr ⟨⟨[3], rfl, sh_3, by decide⟩, List.forall_mem_cons.mpr ⟨⟨[2, 1], rfl, sh_2_1, by decide⟩, List.forall_mem_cons.mpr ⟨⟨[1, 1, 1], rfl, sh_1_1_1, by decide⟩, fun _ h => nomatch h⟩⟩⟩
def forms4 : List PV := [.tup [.int 4], .tup [.int 3, .int 1], .tup [.int 2, .int 2], .tup [.int 2, .int 1, .int 1], .tup [.int 1, .int 1, .int 1, .int 1]]
theorem forms4_eq (S : Sto) : f_l_forms [.int 4] S = .ok (.lst forms4, S) := by kernel_rfl
theorem shs4 : ∀ v ∈ forms4, ∃ s : List Nat, v = tI s ∧ Sh s ∧ s.sum ≤ 7 := List.forall_mem_cons.mpr ⟨⟨[4], rfl, sh_4, by decide⟩, List.forall_mem_cons.mpr ⟨⟨[3, 1], rfl, sh_3_1, by decide⟩, List.forall_mem_cons.mpr ⟨⟨[2, 2], rfl, sh_2_2, by decide⟩, List.forall_mem_cons.mpr ⟨⟨[2, 1, 1], rfl, sh_2_1_1, by decide⟩, List.forall_mem_cons.mpr ⟨⟨[1, 1, 1, 1], rfl, sh_1_1_1_1, by decide⟩, fun _ h => nomatch h⟩⟩⟩⟩⟩
def forms5 : List PV := [.tup [.int 5], .tup [.int 4, .int 1], .tup [.int 3, .int 2], .tup [.int 3, .int 1, .int 1], .tup [.int 2, .int 2, .int 1], .tup [.int 2, .int 1, .int 1, .int 1], .tup [.int 1, .int 1, .int 1, .int 1, .int 1]]
theorem forms5_eq (S : Sto) : f_l_forms [.int 5] S = .ok (.lst forms5, S) := by kernel_rfl
theorem shs5 : ∀ v ∈ forms5, ∃ s : List Nat, v = tI s ∧ Sh s ∧ s.sum ≤ 7 := List.forall_mem_cons.mpr ⟨⟨[5], rfl, sh_5, by decide⟩, List.forall_mem_cons.mpr ⟨⟨[4, 1], rfl, sh_4_1, by decide⟩, List.forall_mem_cons.mpr ⟨⟨[3, 2], rfl, sh_3_2, by decide⟩, List.forall_mem_cons.mpr ⟨⟨[3, 1, 1], rfl, sh_3_1_1, by decide⟩, List.forall_mem_cons.mpr ⟨⟨[2, 2, 1], rfl, sh_2_2_1, by decide⟩, List.forall_mem_cons.mpr ⟨⟨[2, 1, 1, 1], rfl, sh_2_1_1_1, by decide⟩, List.forall_mem_cons.mpr ⟨⟨[1, 1, 1, 1, 1], rfl, sh_1_1_1_1_1, by decide⟩, fun _ h => nomatch h⟩⟩⟩⟩⟩⟩⟩
def forms6 : List PV := [.tup [.int 6], .tup [.int 5, .int 1], .tup [.int 4, .int 2], .tup [.int 4, .int 1, .int 1], .tup [.int 3, .int 3], .tup [.int 3, .int 2, .int 1], .tup [.int 3, .int 1, .int 1, .int 1], .tup [.int 2, .int 2, .int 2], .tup [.int 2, .int 2, .int 1, .int 1], .tup [.int 2, .int 1, .int 1, .int 1, .int 1], .tup [.int 1, .int 1, .int 1, .int 1, .int 1, .int 1]]
theorem forms6_eq (S : Sto) : f_l_forms [.int 6] S = .ok (.lst forms6, S) := by kernel_rfl
theorem shs6 : ∀ v ∈ forms6, ∃ s : List Nat, v = tI s ∧ Sh s ∧ s.sum ≤ 7 := List.forall_mem_cons.mpr ⟨⟨[6], rfl, sh_6, by decide⟩, List.forall_mem_cons.mpr ⟨⟨[5, 1], rfl, sh_5_1, by decide⟩, List.forall_mem_cons.mpr ⟨⟨[4, 2], rfl, sh_4_2, by decide⟩, List.forall_mem_cons.mpr ⟨⟨[4, 1, 1], rfl, sh_4_1_1, by decide⟩, List.forall_mem_cons.mpr ⟨⟨[3, 3], rfl, sh_3_3, by decide⟩, List.forall_mem_cons.mpr ⟨⟨[3, 2, 1], rfl, sh_3_2_1, by decide⟩, List.forall_mem_cons.mpr ⟨⟨[3, 1, 1, 1], rfl, sh_3_1_1_1, by decide⟩, List.forall_mem_cons.mpr ⟨⟨[2, 2, 2], rfl, sh_2_2_2, by decide⟩, List.forall_mem_cons.mpr ⟨⟨[2, 2, 1, 1], rfl, sh_2_2_1_1, by decide⟩, List.forall_mem_cons.mpr ⟨⟨[2, 1, 1, 1, 1], rfl, sh_2_1_1_1_1, by decide⟩, List.forall_mem_cons.mpr ⟨⟨[1, 1, 1, 1, 1, 1], rfl, sh_1_1_1_1_1_1, by decide⟩, fun _ h => nomatch h⟩⟩⟩⟩⟩⟩⟩⟩⟩⟩⟩
def forms7 : List PV := [.tup [.int 7], .tup [.int 6, .int 1], .tup [.int 5, .int 2], .tup [.int 5, .int 1, .int 1], .tup [.int 4, .int 3], .tup [.int 4, .int 2, .int 1], .tup [.int 4, .int 1, .int 1, .int 1], .tup [.int 3, .int 3, .int 1], .tup [.int 3, .int 2, .int 2], .tup [.int 3, .int 2, .int 1, .int 1], .tup [.int 3, .int 1, .int 1, .int 1, .int 1], .tup [.int 2, .int 2, .int 2, .int 1], .tup [.int 2, .int 2, .int 1, .int 1, .int 1], .tup [.int 2, .int 1, .int 1, .int 1, .int 1, .int 1], .tup [.int 1, .int 1, .int 1, .int 1, .int 1, .int 1, .int 1]]
theorem forms7_eq (S : Sto) : f_l_forms [.int 7] S = .ok (.lst forms7, S) := by kernel_rfl
theorem shs7 : ∀ v ∈ forms7, ∃ s : List Nat, v = tI s ∧ Sh s ∧ s.sum ≤ 7 := List.forall_mem_cons.mpr ⟨⟨[7], rfl, sh_7, by decide⟩, List.forall_mem_cons.mpr ⟨⟨[6, 1], rfl, sh_6_1, by decide⟩, List.forall_mem_cons.mpr ⟨⟨[5, 2], rfl, sh_5_2, by decide⟩, List.forall_mem_cons.mpr ⟨⟨[5, 1, 1], rfl, sh_5_1_1, by decide⟩, List.forall_mem_cons.mpr ⟨⟨[4, 3], rfl, sh_4_3, by decide⟩, List.forall_mem_cons.mpr ⟨⟨[4, 2, 1], rfl, sh_4_2_1, by decide⟩, List.forall_mem_cons.mpr ⟨⟨[4, 1, 1, 1], rfl, sh_4_1_1_1, by decide⟩, List.forall_mem_cons.mpr ⟨⟨[3, 3, 1], rfl, sh_3_3_1, by decide⟩, List.forall_mem_cons.mpr ⟨⟨[3, 2, 2], rfl, sh_3_2_2, by decide⟩, List.forall_mem_cons.mpr ⟨⟨[3, 2, 1, 1], rfl, sh_3_2_1_1, by decide⟩, List.forall_mem_cons.mpr ⟨⟨[3, 1, 1, 1, 1], rfl, sh_3_1_1_1_1, by decide⟩, List.forall_mem_cons.mpr ⟨⟨[2, 2, 2, 1], rfl, sh_2_2_2_1, by decide⟩, List.forall_mem_cons.mpr ⟨⟨[2, 2, 1, 1, 1], rfl, sh_2_2_1_1_1, by decide⟩, List.forall_mem_cons.mpr ⟨⟨[2, 1, 1, 1, 1, 1], rfl, sh_2_1_1_1_1_1, by decide⟩, List.forall_mem_cons.mpr ⟨⟨[1, 1, 1, 1, 1, 1, 1], rfl, sh_1_1_1_1_1_1_1, by decide⟩, fun _ h => nomatch h⟩⟩⟩⟩⟩⟩⟩⟩⟩⟩⟩⟩⟩⟩⟩
end K60
set_option Elab.async false
set_option maxRecDepth 100000
set_option maxHeartbeats 10000001
namespace K60
open PySem PySem.Spec PyProof.Rows L2 J
def PairS : FS := (sPar 4 5 (aCons (eCall f_l_form (aCons (eV 0) (aCons (eC (.int 0)) (aCons (eC (.int 7)) aNil)))) (aCons (eOp pAdd (eC (.int 1)) (eCall f_l_sip (aCons (eV 0) (aCons (eC (.int 5)) aNil)))) aNil)))
def WornS : FS := (sSet 3 (eCall f_l_worn (aCons (eV 0) (aCons (eV 4) (aCons (eV 5) aNil)))))
def If1 : FS := (sIf (tV (eOp (pRpr false) (eB pLst (aCons (eCall f_center (aCons (eV 4) (aCons (eV 5) aNil))) (aCons (eCallP f_center swap2 (aCons (eV 5) (aCons (eV 4) aNil))) aNil))) (eB pLst (aCons (eV 3) (aCons (eV 3) aNil))))) (sRet (eC (.bl false))) sNext)
def If2 : FS := (sIf (tOrr (tV (eOp pNe (eCall f_l_worn (aCons (eV 0) (aCons (eV 4) (aCons (eV 5) aNil)))) (eV 3))) (tOrr (tV (eOp pNe (eCall f_center (aCons (eV 3) (aCons (eV 5) aNil))) (eV 3))) (tV (eCall f_l_has_hook (aCons (eV 3) (aCons (eV 5) aNil)))))) (sRet (eC (.bl false))) sNext)
def If3 : FS := (sIf (tOrr (tV (eOp pNe (eCall f_center (aCons (eCall f_l_tilted (aCons (eV 4) aNil)) (aCons (eV 5) aNil))) (eCall f_l_tilted (aCons (eV 3) aNil)))) (tV (eOp pNe (eCall f_center (aCons (eV 4) (aCons (eC (.int 1)) aNil))) (eB pTup aNil)))) (sRet (eC (.bl false))) sNext)
def If4 : FS := (sIf (tV (eOp pNe (eCall f_center (aCons (eV 4) (aCons (eOp pAdd (eUn pSum (eV 4)) (eC (.int 1))) aNil))) (eV 4))) (sRet (eC (.bl false))) sNext)
def StairS : FS := (sSet 2 (eTR (iR3 (aCons (eOp pAdd (eC (.int 1)) (eCall f_l_sip (aCons (eV 0) (aCons (eC (.int 8)) aNil)))) (aCons (eC (.int 0)) (aCons (eUn pNeg (eC (.int 1))) aNil))))))
def RetS : FS := (sRet (eAnd (eCall f_l_great_right (aCons (eV 0) aNil)) (eAnd (eOp pEq (eCall f_center (aCons (eV 2) (aCons (eC (.int 2)) aNil))) (eV 2)) (eOp pEq (eCall f_center (aCons (eB pTup aNil) (aCons (eC (.int 40)) aNil))) (eB pTup aNil)))))
theorem right_eq : F_l_right = sSeq (sFor (iR1 (aCons (eC (.int 2)) aNil)) (gN 1) (sSeq PairS (sSeq WornS (sSeq If1 (sSeq If2 (sSeq If3 If4)))))) (sSeq StairS RetS) := rfl
theorem forms_all (d : Int) (h0 : 0 ≤ d) (h1 : d < 8) (S : Sto) : ∃ xs, f_l_forms [.int d] S = .ok (.lst xs, S) ∧ 0 < xs.length ∧ xs.length < 1000000 ∧ ∀ v ∈ xs, ∃ s : List Nat, v = tI s ∧ Sh s ∧ s.sum ≤ 7 := by
  have hc : d = 0 ∨ d = 1 ∨ d = 2 ∨ d = 3 ∨ d = 4 ∨ d = 5 ∨ d = 6 ∨ d = 7 := by omega
  rcases hc with h | h | h | h | h | h | h | h
  · rw [h]; exact ⟨forms0, forms0_eq S, by decide, by decide, shs0⟩
  · rw [h]; exact ⟨forms1, forms1_eq S, by decide, by decide, shs1⟩
  · rw [h]; exact ⟨forms2, forms2_eq S, by decide, by decide, shs2⟩
  · rw [h]; exact ⟨forms3, forms3_eq S, by decide, by decide, shs3⟩
  · rw [h]; exact ⟨forms4, forms4_eq S, by decide, by decide, shs4⟩
  · rw [h]; exact ⟨forms5, forms5_eq S, by decide, by decide, shs5⟩
  · rw [h]; exact ⟨forms6, forms6_eq S, by decide, by decide, shs6⟩
  · rw [h]; exact ⟨forms7, forms7_eq S, by decide, by decide, shs7⟩
theorem stair_1 (S : Sto) : f_center [.tup [.int 1], .int 2] S = .ok (.tup [.int 1], S) := by kernel_rfl
theorem stair_2 (S : Sto) : f_center [.tup [.int 2, .int 1], .int 2] S = .ok (.tup [.int 2, .int 1], S) := by kernel_rfl
theorem stair_3 (S : Sto) : f_center [.tup [.int 3, .int 2, .int 1], .int 2] S = .ok (.tup [.int 3, .int 2, .int 1], S) := by kernel_rfl
theorem stair_4 (S : Sto) : f_center [.tup [.int 4, .int 3, .int 2, .int 1], .int 2] S = .ok (.tup [.int 4, .int 3, .int 2, .int 1], S) := by kernel_rfl
theorem stair_5 (S : Sto) : f_center [.tup [.int 5, .int 4, .int 3, .int 2, .int 1], .int 2] S = .ok (.tup [.int 5, .int 4, .int 3, .int 2, .int 1], S) := by kernel_rfl
theorem stair_6 (S : Sto) : f_center [.tup [.int 6, .int 5, .int 4, .int 3, .int 2, .int 1], .int 2] S = .ok (.tup [.int 6, .int 5, .int 4, .int 3, .int 2, .int 1], S) := by kernel_rfl
theorem stair_7 (S : Sto) : f_center [.tup [.int 7, .int 6, .int 5, .int 4, .int 3, .int 2, .int 1], .int 2] S = .ok (.tup [.int 7, .int 6, .int 5, .int 4, .int 3, .int 2, .int 1], S) := by kernel_rfl
theorem stair_8 (S : Sto) : f_center [.tup [.int 8, .int 7, .int 6, .int 5, .int 4, .int 3, .int 2, .int 1], .int 2] S = .ok (.tup [.int 8, .int 7, .int 6, .int 5, .int 4, .int 3, .int 2, .int 1], S) := by kernel_rfl
theorem form_ok (n : Nat) (S : Sto) (hS : VatIs S n) : ∃ (s : List Nat) (S' : Sto), f_l_form [.obj n, .int 0, .int 7] S = .ok (tI s, S') ∧ VatIs S' n ∧ Sh s ∧ s.sum ≤ 7 := by
  obtain ⟨d, S1, k1, k2, k3, k4⟩ := sip_ok n S 8 hS (by omega) (by omega)
  obtain ⟨xs, f1, f2, f3, f4⟩ := forms_all d k2 k3 S1
  obtain ⟨v, S2, g1, g2, g3⟩ := dip_ok n S1 xs f2 f3 k4
  obtain ⟨s, rfl, hs, h7⟩ := f4 v g1
  refine ⟨s, S2, ?_, g3, hs, h7⟩
  have e : env0 3 [.obj n, .int 0, .int 7] = [.val (.obj n), .val (.int 0), .val (.int 7)] := rfl
  refine runF_rt (sRet_ok ?_)
  rw [e]
  refine eCall_ok (xs := [.obj n, .lst xs]) (aCons_ok rfl (aCons_ok (eCall_ok (aCons_ok (eOp_ok (x := .int 0) rfl (eCall_ok (xs := [.obj n, .int 8]) rfl k1) (z := .int d) ?_) rfl) f1) rfl)) g2
  simp [pAdd]
theorem tV_ok {a : FE} {env : J.Env} {S S1 : Sto} {b : Bool} (h : a env S = .ok (.bl b, S1)) : tV a env S = .ok (b, S1) := by
  unfold tV
  rw [h]
  rfl
theorem tOrr_no {a b : FT} {env : J.Env} {S S1 S2 : Sto} {k : Bool} (h : a env S = .ok (false, S1)) (h' : b env S1 = .ok (k, S2)) : tOrr a b env S = .ok (k, S2) := by
  unfold tOrr
  rw [h]
  exact h'
theorem sIf_no {c : FT} {a b : FS} {env : J.Env} {S S1 : Sto} {r : Res Fl} (h : c env S = .ok (false, S1)) (h' : b env S1 = r) : sIf c a b env S = r := by
  unfold sIf
  rw [h]
  exact h'
theorem ne_self (s : List Nat) : pNe (tI s) (tI s) = some (.bl false) := by
  rw [ne_tI]
  simp
theorem body_ok (n : Nat) (S : Sto) (hS : VatIs S n) : ∀ (env : J.Env), env.length = 6 → env[0]? = some (.val (.obj n)) → ∃ e S', (sSeq PairS (sSeq WornS (sSeq If1 (sSeq If2 (sSeq If3 If4))))) env S = .ok (.nx e S') ∧ e.length = 6 ∧ e[0]? = some (.val (.obj n)) ∧ VatIs S' n
  | [a0, a1, a2, a3, a4, a5], _, h0 => by
    cases h0
    obtain ⟨s, S1, k1, k2, hs, h7⟩ := form_ok n S hS
    obtain ⟨d, S2, l1, l2, l3, l4⟩ := sip_ok n S1 5 k2 (by omega) (by omega)
    obtain ⟨m, hm⟩ : ∃ m : Nat, 1 + d = (m : Int) := ⟨(1 + d).toNat, by omega⟩
    have hm1 : 1 ≤ m := by omega
    have hm5 : m ≤ 5 := by omega
    obtain ⟨c0, S3, w1, w2, w3, w4, w5⟩ := worn_ok m hm1 hm5 (fin_all m hm1 hm5) n S2 s l4 hs h7
    obtain ⟨c, c', t1, t2, t3, t4, t5⟩ := (fin_all m hm1 hm5 s hs h7).til
    obtain ⟨cc, hC, hrun⟩ := center_ok s m hs hm1 (by omega)
    have ecc : cc = c := by
      have := (hrun []).symm.trans t1
      simp only [Res.ok.injEq, Prod.mk.injEq, and_true] at this
      exact tI_inj this
    subst ecc
    have ec0 : c0 = cc := unique hm1 w3.sh hC.sh.sh w4 hC.st fun r => (w5 r).trans (hC.cl r).symm
    subst ec0
    obtain ⟨ct, hCt, hrunt⟩ := center_ok (tilt s) m t4 hm1 (by omega)
    have ect : ct = c' := by
      have := (hrunt []).symm.trans t2
      simp only [Res.ok.injEq, Prod.mk.injEq, and_true] at this
      exact tI_inj this
    subst ect
    obtain ⟨cs, hCs, hruns⟩ := center_ok c0 m hC.sh hm1 (by omega)
    have ecs : cs = c0 := center_same hm1 hCs hC hC.cl
    subst ecs
    obtain ⟨c2, S4, x1, x2, x3, x4, x5⟩ := worn_ok m hm1 hm5 (fin_all m hm1 hm5) n S3 s w2 hs h7
    have ec2 : c2 = cs := unique hm1 x3.sh hC.sh.sh x4 hC.st fun r => (x5 r).trans (hC.cl r).symm
    subst ec2
    have p1 : PairS [.val (.obj n), a1, a2, a3, a4, a5] S = .ok (.nx [.val (.obj n), a1, a2, a3, .val (tI s), .val (.int m)] S2) := by
      have ha : (aCons (eCall f_l_form (aCons (eV 0) (aCons (eC (.int 0)) (aCons (eC (.int 7)) aNil)))) (aCons (eOp pAdd (eC (.int 1)) (eCall f_l_sip (aCons (eV 0) (aCons (eC (.int 5)) aNil)))) aNil)) [.val (.obj n), a1, a2, a3, a4, a5] S = .ok ([tI s, .int (1 + d)], S2) :=
        aCons_ok (eCall_ok (xs := [.obj n, .int 0, .int 7]) (S1 := S) rfl k1) (aCons_ok (eOp_ok (x := .int 1) rfl (eCall_ok (xs := [.obj n, .int 5]) (S1 := S1) rfl l1) rfl) rfl)
      rw [hm] at ha
      unfold PairS sPar
      rw [ha]
      rfl
    have p2 : WornS [.val (.obj n), a1, a2, a3, .val (tI s), .val (.int m)] S2 = .ok (.nx [.val (.obj n), a1, a2, .val (tI c2), .val (tI s), .val (.int m)] S3) := sSet_ok (eCall_ok (xs := [.obj n, tI s, .int m]) (S1 := S2) rfl w1)
    have cen : ∀ S : Sto, f_center [tI s, .int m] S = .ok (tI c2, S) := hrun
    have p3 : If1 [.val (.obj n), a1, a2, .val (tI c2), .val (tI s), .val (.int m)] S3 = .ok (.nx [.val (.obj n), a1, a2, .val (tI c2), .val (tI s), .val (.int m)] S3) := by
      refine sIf_no (tV_ok (eOp_ok (x := .lst [tI c2, tI c2]) (eB_ok (aCons_ok (eCall_ok (xs := [tI s, .int m]) (S1 := S3) rfl (cen S3)) (aCons_ok (S1 := S3) (x := tI c2) ?_ rfl)) rfl) (y := .lst [tI c2, tI c2]) rfl t5)) rfl
      show (f_center (swap2 [.int m, tI s]) S3) = _
      exact cen S3
    have p4 : If2 [.val (.obj n), a1, a2, .val (tI c2), .val (tI s), .val (.int m)] S3 = .ok (.nx [.val (.obj n), a1, a2, .val (tI c2), .val (tI s), .val (.int m)] S4) :=
      sIf_no (tOrr_no (tV_ok (eOp_ok (eCall_ok (xs := [.obj n, tI s, .int m]) (S1 := S3) rfl x1) (y := tI c2) rfl (ne_self c2))) (tOrr_no (tV_ok (eOp_ok (eCall_ok (xs := [tI c2, .int m]) (S1 := S4) rfl (hruns S4)) (y := tI c2) rfl (ne_self c2))) (tV_ok (eCall_ok (xs := [tI c2, .int m]) (S1 := S4) rfl (hook_ok c2 m hm1 hC.sh hC.st S4))))) rfl
    have p5 : If3 [.val (.obj n), a1, a2, .val (tI c2), .val (tI s), .val (.int m)] S4 = .ok (.nx [.val (.obj n), a1, a2, .val (tI c2), .val (tI s), .val (.int m)] S4) := by
      refine sIf_no (tOrr_no (tV_ok (eOp_ok (x := tI ct) (S1 := S4) (eCall_ok (xs := [tI (tilt s), .int m]) (S1 := S4) (aCons_ok (eCall_ok (xs := [tI s]) (S1 := S4) rfl (tilted_ok s hs S4)) rfl) (hrunt S4)) (y := tI ct) (S2 := S4) ?_ (ne_self ct))) (tV_ok (eOp_ok (x := .tup []) (eCall_ok (xs := [tI s, .int 1]) (S1 := S4) rfl (center_one s hs S4)) (y := .tup []) rfl (ne_self [])))) rfl
      rw [← t3]
      exact eCall_ok (xs := [tI c2]) (S1 := S4) rfl (tilted_ok c2 hC.sh S4)
    have p6 : If4 [.val (.obj n), a1, a2, .val (tI c2), .val (tI s), .val (.int m)] S4 = .ok (.nx [.val (.obj n), a1, a2, .val (tI c2), .val (tI s), .val (.int m)] S4) :=
      sIf_no (tV_ok (eOp_ok (eCall_ok (xs := [tI s, .int ((s.sum : Int) + 1)]) (S1 := S4) (aCons_ok rfl (aCons_ok (eOp_ok (un_eq (x := tI s) rfl (pSum_tI s)) (y := .int 1) rfl rfl) rfl)) (center_big s hs h7 S4)) (y := tI s) rfl (ne_self s))) rfl
    exact ⟨_, S4, (sSeq_nx p1).trans ((sSeq_nx p2).trans ((sSeq_nx p3).trans ((sSeq_nx p4).trans ((sSeq_nx p5).trans p6)))), rfl, rfl, x2⟩
theorem stair_ok (w : Int) (h0 : 0 ≤ w) (h1 : w < 8) : ∃ v, (∀ S : Sto, f_center [v, .int 2] S = .ok (v, S)) ∧ pEq v v = some (.bl true) ∧ ∀ (env : J.Env) (S S1 : Sto) (f : FE), f env S = .ok (.int (1 + w), S1) → eTR (iR3 (aCons f (aCons (eC (.int 0)) (aCons (eUn pNeg (eC (.int 1))) aNil)))) env S = .ok (v, S1) := by
  have hc : w = 0 ∨ w = 1 ∨ w = 2 ∨ w = 3 ∨ w = 4 ∨ w = 5 ∨ w = 6 ∨ w = 7 := by omega
  rcases hc with h | h | h | h | h | h | h | h
  · subst h
    refine ⟨.tup [.int 1], stair_1, by decide, fun env S S1 f hf => ?_⟩
    unfold eTR iR3
    rw [aCons_ok hf rfl]
    rfl
  · subst h
    refine ⟨.tup [.int 2, .int 1], stair_2, by decide, fun env S S1 f hf => ?_⟩
    unfold eTR iR3
    rw [aCons_ok hf rfl]
    rfl
  · subst h
    refine ⟨.tup [.int 3, .int 2, .int 1], stair_3, by decide, fun env S S1 f hf => ?_⟩
    unfold eTR iR3
    rw [aCons_ok hf rfl]
    rfl
  · subst h
    refine ⟨.tup [.int 4, .int 3, .int 2, .int 1], stair_4, by decide, fun env S S1 f hf => ?_⟩
    unfold eTR iR3
    rw [aCons_ok hf rfl]
    rfl
  · subst h
    refine ⟨.tup [.int 5, .int 4, .int 3, .int 2, .int 1], stair_5, by decide, fun env S S1 f hf => ?_⟩
    unfold eTR iR3
    rw [aCons_ok hf rfl]
    rfl
  · subst h
    refine ⟨.tup [.int 6, .int 5, .int 4, .int 3, .int 2, .int 1], stair_6, by decide, fun env S S1 f hf => ?_⟩
    unfold eTR iR3
    rw [aCons_ok hf rfl]
    rfl
  · subst h
    refine ⟨.tup [.int 7, .int 6, .int 5, .int 4, .int 3, .int 2, .int 1], stair_7, by decide, fun env S S1 f hf => ?_⟩
    unfold eTR iR3
    rw [aCons_ok hf rfl]
    rfl
  · subst h
    refine ⟨.tup [.int 8, .int 7, .int 6, .int 5, .int 4, .int 3, .int 2, .int 1], stair_8, by decide, fun env S S1 f hf => ?_⟩
    unfold eTR iR3
    rw [aCons_ok hf rfl]
    rfl
theorem tail_ok (n : Nat) (S : Sto) (hS : VatIs S n) : ∀ (env : J.Env), env.length = 6 → env[0]? = some (.val (.obj n)) → ∃ S', (sSeq StairS RetS) env S = .ok (.rt (.bl true) S')
  | [a0, a1, a2, a3, a4, a5], _, h0 => by
    cases h0
    obtain ⟨w, S1, k1, k2, k3, k4⟩ := sip_ok n S 8 hS (by omega) (by omega)
    obtain ⟨v, v1, v2, v3⟩ := stair_ok w k2 k3
    obtain ⟨S2, g1, g2⟩ := great_ok n S1 k4
    refine ⟨S2, ?_⟩
    have e1 : StairS [.val (.obj n), a1, a2, a3, a4, a5] S = .ok (.nx [.val (.obj n), a1, .val v, a3, a4, a5] S1) := sSet_ok (v3 _ S S1 _ (eOp_ok (x := .int 1) rfl (eCall_ok (xs := [.obj n, .int 8]) (S1 := S) rfl k1) rfl))
    have q1 : eCall f_l_great_right (aCons (eV 0) aNil) [.val (.obj n), a1, .val v, a3, a4, a5] S1 = .ok (.bl true, S2) := eCall_ok (xs := [.obj n]) (S1 := S1) rfl g1
    have q2 : (eOp pEq (eCall f_center (aCons (eV 2) (aCons (eC (.int 2)) aNil))) (eV 2)) [.val (.obj n), a1, .val v, a3, a4, a5] S2 = .ok (.bl true, S2) := eOp_ok (eCall_ok (xs := [v, .int 2]) (S1 := S2) rfl (v1 S2)) (y := v) rfl v2
    have h00 : Sh [] := ⟨⟨.nil, (fun q h => nomatch h), by simp⟩, by simp⟩
    have q3 : (eOp pEq (eCall f_center (aCons (eB pTup aNil) (aCons (eC (.int 40)) aNil))) (eB pTup aNil)) [.val (.obj n), a1, .val v, a3, a4, a5] S2 = .ok (.bl true, S2) := by
      obtain ⟨c, hC, hrun⟩ := center_ok [] 40 h00 (by omega) (by omega)
      have e : c = [] := center_same (by omega) hC (ctr_self h00 (fun b hb => nomatch hb)) fun _ => rfl
      subst e
      exact eOp_ok (eCall_ok (xs := [tI [], .int (40 : Nat)]) (S1 := S2) rfl (hrun S2)) (y := .tup []) rfl (by decide)
    refine (sSeq_nx e1).trans (sRet_ok ?_)
    unfold eAnd
    rw [q1]
    simp only [Res.bind]
    rw [q2]
    simp only [Res.bind]
    exact q3
theorem right_ok (n : Nat) (S : Sto) (hS : VatIs S n) : ∃ S', f_l_right [.obj n] S = .ok (.bl true, S') := by
  have e0 : env0 6 [.obj n] = [.val (.obj n), .un, .un, .un, .un, .un] := rfl
  obtain ⟨e1, S1, h1, h2, h3, h4⟩ := body_ok n S hS ([.val (.obj n), .un, .un, .un, .un, .un].set 1 (.val (.int 0))) rfl rfl
  obtain ⟨e2, S2, k1, k2, k3, k4⟩ := body_ok n S1 h4 (e1.set 1 (.val (.int 1))) (by rw [List.length_set]; exact h2) (by rw [List.getElem?_set_ne (by decide)]; exact h3)
  obtain ⟨S3, hl⟩ := tail_ok n S2 k4 e2 k2 k3
  have hr : (iR1 (aCons (eC (.int 2)) aNil)) [.val (.obj n), .un, .un, .un, .un, .un] S = .ok ([.int 0, .int 1], S) := rfl
  refine ⟨S3, runF_rt ?_⟩
  rw [right_eq, e0]
  exact (sSeq_nx (sFor_ok hr ((forL_nx rfl h1).trans ((forL_nx rfl k1).trans rfl)))).trans hl
theorem law_is : f_law = runF 2 (sRet (eUn pAll (eLc [1] (iR1 (aCons (eB pMax2 (aCons (eC (.int (2 : Nat))) (aCons (eB pMin2 (aCons (eUn pLen (eV 0)) (aCons (eC (.int (5 : Nat))) aNil))) aNil))) aNil)) (gN 1) tT (eCall f_l_right (aCons (eCall f_l_vat_of (aCons (eV 0) (aCons (eV 1) aNil))) aNil))))) := rfl
theorem law_ok (ns : List Int) : ∃ S', f_law [.scr ns] [] = .ok (.bl true, S') := by
  rw [law_is]
  exact law_all ns 2 5 (by omega) (by omega) (each_of (Is := VatIs) (fun k hk S => vat_ok ns k hk S) right_ok)
end K60
set_option Elab.async false
set_option linter.all false
set_option maxRecDepth 100000
set_option maxHeartbeats 0
open PySem.W PySem PySem.Calls PyProof.Rows
theorem PySem.Challenge.cw_wordshapes_k60_whole_centers_holds : PySem.Challenge.rw_wordshapes_k60_whole_centers.Holds := by
  w_on; o_law
  refine HandSHeadRun.head_any (r := OpenLaw.row PySem.Challenge.rw_wordshapes_k60_whole_centers) (q := view (OpenLaw.row PySem.Challenge.rw_wordshapes_k60_whole_centers).prog [35]) (H := K60.hk) (ob := K60.ob) (M := 6000) (loose := K60.loose) (d := HandSHeadRun.topDef (OpenLaw.row PySem.Challenge.rw_wordshapes_k60_whole_centers).prog 35) (kwd := []) K60.ob_eq
    (by kernel_rfl) (fun s => by kernel_rfl) K60.run (by kernel_rfl) (by kernel_rfl) (by kernel_rfl) (by rfl) (by first | assumption | decide +kernel) (by decide +kernel) ⟨rfl, rfl, rfl, rfl, rfl, by decide +kernel⟩ ?hw ?hc
  case hw => w_witness2
  case hc =>
    refine J.walk_ofG (l := PySem.Challenge.rw_wordshapes_k60_whole_centers) (n := 63) (k := 8) (x := "_law_script") (ct := fun _ => K60.ct0) (f := K60.f_law) rfl (by decide) (by kernel_rfl) ⟨rfl, by decide, by decide⟩ (fun ns _ => K60.law_ok ns) ?F
    intro w mg fa h Y G hmg0
    obtain ⟨K, KX, c⟩ := Y
    have named : mg ("law" : PySem.Str) = some (.ref fa) := by
      have e : (HandSHeadRun.topDef (OpenLaw.row PySem.Challenge.rw_wordshapes_k60_whole_centers).prog 35).name = ("law" : PySem.Str) := by kernel_rfl
      rw [← e]
      exact hmg0
    have Z := K60.facts KX G c
    obtain ⟨fa', fd, FD, hm, FG⟩ := K60.ok_law (P := (PySem.Challenge.rw_wordshapes_k60_whole_centers).prog) (w := w) (base := h) Z
    have e := named.symm.trans hm
    cases e
    have b := L2.FunD.bindsA (ps := ["_law_script"]) FD fun _ _ _ _ _ _ us hl => match us, hl with | [_], _ => rfl
    refine ⟨K, fd, KX, fun s v => b s [v] rfl, fun base _ _ => ?_⟩
    obtain ⟨fa2, fd2, FD2, hm2, FG2⟩ := K60.ok_law (P := (PySem.Challenge.rw_wordshapes_k60_whole_centers).prog) (w := w) (base := base) Z
    have e2 := hm.symm.trans hm2
    cases e2
    have e3 := J.funD_same FD FD2
    subst e3
    exact FG2
