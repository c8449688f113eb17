import PyProof.Rows.All
import Wide.All
import OpenK.AllK
import Wide.FinOn
import KE.KStateDown
import Lean
import HandS.Base
import HandS.Call
import HandS.Ends
import HandS.More
import HandS.Words
import HandS.WordsExc
import HandS.Defaults
import HandS.Head0
import HandS.Head1
import HandS.Head2
import HandS.HeadEnd
import HandS.HeadHook1
import HandS.HeadHook2
import HandS.Exc
import HandS.GenList
import HandS.WordsList
import HandS.ForMost
import HandS.Strs
import HandS.Deep
import KE.KDictZip
import KE.GoesEnum
import KE.KItemsList
import HandS.Conv
import HandS.Flow
import HandS.IsInst
import HandS.TupAny
import HandS.TupLen
import HandS.TupSets
import HandS.Style
import HandS.SortRule
import HandS.Wide
import HandS.Zip
import PySem.Challenge.RW_reesblocks_k37_whole_counts_by_congruenc
section
set_option Elab.async false
set_option linter.all false
set_option maxRecDepth 100000
set_option maxHeartbeats 0
namespace K37
open PySem PySem.Spec PyProof.Rows L2
def topS (i : Nat) : Stmt := PySem.Challenge.pw_reesblocks_k37_whole_counts_by_congruenc.main.body.getD i (.Pass ⟨0, 0, 0, 0⟩)
abbrev s_is_integer : Stmt := topS 6
abbrev s_is_equivalence : Stmt := topS 7
abbrev s_classes_of : Stmt := topS 8
abbrev s_joined : Stmt := topS 9
abbrev s_refines : Stmt := topS 10
abbrev s_is_item : Stmt := topS 13
abbrev s_taken_table : Stmt := topS 14
abbrev s_is_associative : Stmt := topS 15
abbrev s_Semigroup_init : Stmt := inClass (topS 16) 0
abbrev s_Semigroup_is_element : Stmt := inClass (topS 16) 3
abbrev s_is_congruence : Stmt := topS 19
abbrev s_check_pairs : Stmt := topS 20
abbrev s_merged : Stmt := topS 21
abbrev s_generated : Stmt := topS 22
abbrev s_class_numbers : Stmt := topS 23
abbrev s_quotient : Stmt := topS 24
abbrev s_congruences : Stmt := topS 25
abbrev s_class_count : Stmt := topS 27
abbrev s_moebius_numbers : Stmt := topS 28
abbrev s_closing : Stmt := topS 31
abbrev s_close : Stmt := topS 32
abbrev s_extended : Stmt := topS 33
abbrev s_walk : Stmt := topS 34
abbrev s_gathered : Stmt := topS 35
abbrev s_count_homomorphisms : Stmt := topS 36
abbrev s_count_by_congruences : Stmt := topS 37
abbrev s_law_state : Stmt := topS 39
abbrev s_law_take : Stmt := topS 40
abbrev s_law_order_of : Stmt := topS 41
abbrev s_law_renamed : Stmt := topS 42
abbrev s_law_after : Stmt := topS 43
abbrev s_law_closed : Stmt := topS 44
abbrev s_law_of_maps : Stmt := topS 45
abbrev s_law_monogenic : Stmt := topS 46
abbrev s_law_triples : Stmt := topS 47
abbrev s_law_blocks : Stmt := topS 48
abbrev s_law_plain : Stmt := topS 49
abbrev s_law_extended : Stmt := topS 50
abbrev s_law_semigroup : Stmt := topS 51
abbrev s_law_rows_of : Stmt := topS 52
abbrev s_law_keeps : Stmt := topS 53
abbrev s_law_kernel : Stmt := topS 54
abbrev s_law_refines : Stmt := topS 55
abbrev s_law : Stmt := topS 56
def d_is_integer : He.DefD := ⟨("is_integer", none), "is_integer", "is_integer", defArgs s_is_integer, defBody s_is_integer, defScope s_is_integer, [], []⟩
def d_is_equivalence : He.DefD := ⟨("is_equivalence", none), "is_equivalence", "is_equivalence", defArgs s_is_equivalence, defBody s_is_equivalence, defScope s_is_equivalence, [], []⟩
def d_classes_of : He.DefD := ⟨("classes_of", none), "classes_of", "classes_of", defArgs s_classes_of, defBody s_classes_of, defScope s_classes_of, [], []⟩
def d_joined : He.DefD := ⟨("joined", none), "joined", "joined", defArgs s_joined, defBody s_joined, defScope s_joined, [], []⟩
def d_refines : He.DefD := ⟨("refines", none), "refines", "refines", defArgs s_refines, defBody s_refines, defScope s_refines, [], []⟩
def d_is_item : He.DefD := ⟨("is_item", none), "is_item", "is_item", defArgs s_is_item, defBody s_is_item, defScope s_is_item, [], []⟩
def d_taken_table : He.DefD := ⟨("taken_table", none), "taken_table", "taken_table", defArgs s_taken_table, defBody s_taken_table, defScope s_taken_table, [], []⟩
def d_is_associative : He.DefD := ⟨("is_associative", none), "is_associative", "is_associative", defArgs s_is_associative, defBody s_is_associative, defScope s_is_associative, [], []⟩
def d_Semigroup_init : He.DefD := ⟨("Semigroup", some "__init__"), "__init__", "Semigroup.__init__", defArgs s_Semigroup_init, defBody s_Semigroup_init, defScope s_Semigroup_init, [], []⟩
def d_Semigroup_is_element : He.DefD := ⟨("Semigroup", some "is_element"), "is_element", "Semigroup.is_element", defArgs s_Semigroup_is_element, defBody s_Semigroup_is_element, defScope s_Semigroup_is_element, [], []⟩
def d_is_congruence : He.DefD := ⟨("is_congruence", none), "is_congruence", "is_congruence", defArgs s_is_congruence, defBody s_is_congruence, defScope s_is_congruence, [], []⟩
def d_check_pairs : He.DefD := ⟨("check_pairs", none), "check_pairs", "check_pairs", defArgs s_check_pairs, defBody s_check_pairs, defScope s_check_pairs, [], []⟩
def d_merged : He.DefD := ⟨("merged", none), "merged", "merged", defArgs s_merged, defBody s_merged, defScope s_merged, [], []⟩
def d_generated : He.DefD := ⟨("generated", none), "generated", "generated", defArgs s_generated, defBody s_generated, defScope s_generated, [], []⟩
def d_class_numbers : He.DefD := ⟨("class_numbers", none), "class_numbers", "class_numbers", defArgs s_class_numbers, defBody s_class_numbers, defScope s_class_numbers, [], []⟩
def d_quotient : He.DefD := ⟨("quotient", none), "quotient", "quotient", defArgs s_quotient, defBody s_quotient, defScope s_quotient, [], []⟩
def d_congruences : He.DefD := ⟨("congruences", none), "congruences", "congruences", defArgs s_congruences, defBody s_congruences, defScope s_congruences, [], []⟩
def d_class_count : He.DefD := ⟨("class_count", none), "class_count", "class_count", defArgs s_class_count, defBody s_class_count, defScope s_class_count, [], []⟩
def d_moebius_numbers : He.DefD := ⟨("moebius_numbers", none), "moebius_numbers", "moebius_numbers", defArgs s_moebius_numbers, defBody s_moebius_numbers, defScope s_moebius_numbers, [], []⟩
def d_closing : He.DefD := ⟨("closing", none), "closing", "closing", defArgs s_closing, defBody s_closing, defScope s_closing, [], []⟩
def d_close : He.DefD := ⟨("close", none), "close", "close", defArgs s_close, defBody s_close, defScope s_close, [], []⟩
def d_extended : He.DefD := ⟨("extended", none), "extended", "extended", defArgs s_extended, defBody s_extended, defScope s_extended, [], []⟩
def d_walk : He.DefD := ⟨("walk", none), "walk", "walk", defArgs s_walk, defBody s_walk, defScope s_walk, [], []⟩
def d_gathered : He.DefD := ⟨("gathered", none), "gathered", "gathered", defArgs s_gathered, defBody s_gathered, defScope s_gathered, [], []⟩
def d_count_homomorphisms : He.DefD := ⟨("count_homomorphisms", none), "count_homomorphisms", "count_homomorphisms", defArgs s_count_homomorphisms, defBody s_count_homomorphisms, defScope s_count_homomorphisms, [], []⟩
def d_count_by_congruences : He.DefD := ⟨("count_by_congruences", none), "count_by_congruences", "count_by_congruences", defArgs s_count_by_congruences, defBody s_count_by_congruences, defScope s_count_by_congruences, [], []⟩
def d_law_state : He.DefD := ⟨("_law_state", none), "_law_state", "_law_state", defArgs s_law_state, defBody s_law_state, defScope s_law_state, [], []⟩
def d_law_take : He.DefD := ⟨("_law_take", none), "_law_take", "_law_take", defArgs s_law_take, defBody s_law_take, defScope s_law_take, [], []⟩
def d_law_order_of : He.DefD := ⟨("_law_order_of", none), "_law_order_of", "_law_order_of", defArgs s_law_order_of, defBody s_law_order_of, defScope s_law_order_of, [], []⟩
def d_law_renamed : He.DefD := ⟨("_law_renamed", none), "_law_renamed", "_law_renamed", defArgs s_law_renamed, defBody s_law_renamed, defScope s_law_renamed, [], []⟩
def d_law_after : He.DefD := ⟨("_law_after", none), "_law_after", "_law_after", defArgs s_law_after, defBody s_law_after, defScope s_law_after, [], []⟩
def d_law_closed : He.DefD := ⟨("_law_closed", none), "_law_closed", "_law_closed", defArgs s_law_closed, defBody s_law_closed, defScope s_law_closed, [], []⟩
def d_law_of_maps : He.DefD := ⟨("_law_of_maps", none), "_law_of_maps", "_law_of_maps", defArgs s_law_of_maps, defBody s_law_of_maps, defScope s_law_of_maps, [], []⟩
def d_law_monogenic : He.DefD := ⟨("_law_monogenic", none), "_law_monogenic", "_law_monogenic", defArgs s_law_monogenic, defBody s_law_monogenic, defScope s_law_monogenic, [], []⟩
def d_law_triples : He.DefD := ⟨("_law_triples", none), "_law_triples", "_law_triples", defArgs s_law_triples, defBody s_law_triples, defScope s_law_triples, [], []⟩
def d_law_blocks : He.DefD := ⟨("_law_blocks", none), "_law_blocks", "_law_blocks", defArgs s_law_blocks, defBody s_law_blocks, defScope s_law_blocks, [], []⟩
def d_law_plain : He.DefD := ⟨("_law_plain", none), "_law_plain", "_law_plain", defArgs s_law_plain, defBody s_law_plain, defScope s_law_plain, [], []⟩
def d_law_extended : He.DefD := ⟨("_law_extended", none), "_law_extended", "_law_extended", defArgs s_law_extended, defBody s_law_extended, defScope s_law_extended, [], []⟩
def d_law_semigroup : He.DefD := ⟨("_law_semigroup", none), "_law_semigroup", "_law_semigroup", defArgs s_law_semigroup, defBody s_law_semigroup, defScope s_law_semigroup, [], []⟩
def d_law_rows_of : He.DefD := ⟨("_law_rows_of", none), "_law_rows_of", "_law_rows_of", defArgs s_law_rows_of, defBody s_law_rows_of, defScope s_law_rows_of, [], []⟩
def d_law_keeps : He.DefD := ⟨("_law_keeps", none), "_law_keeps", "_law_keeps", defArgs s_law_keeps, defBody s_law_keeps, defScope s_law_keeps, [], []⟩
def d_law_kernel : He.DefD := ⟨("_law_kernel", none), "_law_kernel", "_law_kernel", defArgs s_law_kernel, defBody s_law_kernel, defScope s_law_kernel, [], []⟩
def d_law_refines : He.DefD := ⟨("_law_refines", none), "_law_refines", "_law_refines", defArgs s_law_refines, defBody s_law_refines, defScope s_law_refines, [], []⟩
def d_law : He.DefD := ⟨("law", none), "law", "law", defArgs s_law, defBody s_law, defScope s_law, [], []⟩
def fnL : List He.DefD := [d_is_integer, d_is_equivalence, d_classes_of, d_joined, d_refines, d_is_item, d_taken_table, d_is_associative, d_Semigroup_init, d_Semigroup_is_element, d_is_congruence, d_check_pairs, d_merged, d_generated, d_class_numbers, d_quotient, d_congruences, d_class_count, d_moebius_numbers, d_closing, d_close, d_extended, d_walk, d_gathered, d_count_homomorphisms, d_count_by_congruences, d_law_state, d_law_take, d_law_order_of, d_law_renamed, d_law_after, d_law_closed, d_law_of_maps, d_law_monogenic, d_law_triples, d_law_blocks, d_law_plain, d_law_extended, d_law_semigroup, d_law_rows_of, d_law_keeps, d_law_kernel, d_law_refines, d_law]
def faL : List He.Fa := [.glo "is_integer", .glo "is_equivalence", .glo "classes_of", .glo "joined", .glo "refines", .glo "is_item", .glo "taken_table", .glo "is_associative", .glo "is_congruence", .glo "check_pairs", .glo "merged", .glo "generated", .glo "class_numbers", .glo "quotient", .glo "congruences", .glo "class_count", .glo "moebius_numbers", .glo "closing", .glo "close", .glo "extended", .glo "walk", .glo "gathered", .glo "count_homomorphisms", .glo "count_by_congruences", .glo "_law_state", .glo "_law_take", .glo "_law_order_of", .glo "_law_renamed", .glo "_law_after", .glo "_law_closed", .glo "_law_of_maps", .glo "_law_monogenic", .glo "_law_triples", .glo "_law_blocks", .glo "_law_plain", .glo "_law_extended", .glo "_law_semigroup", .glo "_law_rows_of", .glo "_law_keeps", .glo "_law_kernel", .glo "_law_refines", .glo "law", .glo "Semigroup", .cls "Semigroup", .mkr "Semigroup", .noat "Semigroup" "n", .noat "Semigroup" "table", .meth "Semigroup" "is_element", .int "MOST_semigroup" 24, .int "MOST_CONGRUENCES" 1000, .int "MOST_homs" 50000, .free "isinstance", .free "int", .free "bool", .free "tuple", .free "list", .free "len", .free "range", .free "min", .free "max", .free "enumerate", .free "all", .free "sorted", .free "sum", .free "set", .free "zip", .free "abs"]
def nm0 : List PySem.Str := ["_wall", "Fault", "Malformed", "Refused", "is_integer", "is_equivalence", "classes_of", "joined", "refines", "MOST_semigroup", "is_item", "taken_table", "is_associative", "Semigroup", "MOST_CONGRUENCES", "is_congruence", "check_pairs", "merged", "generated", "class_numbers", "quotient", "congruences", "class_count", "moebius_numbers", "MOST_homs", "closing", "close", "extended", "walk", "gathered"]
def nm1 : List PySem.Str := ["count_homomorphisms", "count_by_congruences", "_law_state", "_law_take", "_law_order_of", "_law_renamed", "_law_after", "_law_closed", "_law_of_maps", "_law_monogenic", "_law_triples", "_law_blocks", "_law_plain", "_law_extended", "_law_semigroup", "_law_rows_of", "_law_keeps", "_law_kernel", "_law_refines"]
def nmL : List PySem.Str := nm0 ++ nm1
abbrev RR : PySem.W.OpenRow := PySem.W.OpenLaw.row PySem.Challenge.rw_reesblocks_k37_whole_counts_by_congruenc
abbrev hk : PySem.W.Hook := He.hookD 4 faL fnL
def ob (s : PySem.W.SharedT) : He.AlD := He.obsDG 4 faL fnL (HandSHeadRun.getT s)
theorem ob_eq (s : PySem.W.SharedT) : ob s = hk.obs s.abs := He.obsDG_eq (HandSHeadRun.getT_eq s)
theorem headRun (w : World) : HandSHeadRun.RunEq RR (PySem.W.view RR.prog [56]) hk ob 3000 nmL w := by
  intro os
  kernel_rfl
end K37
end
section
set_option Elab.async false
set_option linter.all false
set_option maxRecDepth 100000
set_option maxHeartbeats 1000000
/-! a generator that a for loop draws: both sides share the abstract heap -/
namespace K37
open PySem PySem.Spec PyProof.Rows L2 GenW

/-! ### the heap below n -/
def cutS (s : Shared) (n : Nat) : Shared := { s with heap := { s.heap with objs := s.heap.objs.extract 0 n } }
theorem cut_at (s : Shared) (n b : Nat) : (cutS s n).heap.objs[b]? = if b < n then s.heap.objs[b]? else none := by
  show (s.heap.objs.extract 0 n)[b]? = _
  rw [Array.getElem?_extract]
  by_cases h : b < n
  · rw [if_pos h]
    by_cases h2 : b < s.heap.objs.size
    · rw [if_pos (by omega), Nat.zero_add]
    · rw [if_neg (by omega)]
      exact (Array.getElem?_eq_none (by omega)).symm
  · rw [if_neg h, if_neg (by omega)]
theorem cut_get {s : Shared} {n b : Nat} (h : b < n) : (cutS s n).heap.get? b = s.heap.get? b := by
  unfold Heap.get?
  rw [cut_at, if_pos h]
theorem cut_some {s : Shared} {n b : Nat} {o : Obj} (h : (cutS s n).heap.get? b = some o) : b < n ∧ s.heap.get? b = some o := by
  by_cases hb : b < n
  · rw [cut_get hb] at h
    exact ⟨hb, h⟩
  · unfold Heap.get? at h
    rw [cut_at, if_neg hb] at h
    cases h
theorem cut_size {s : Shared} {n : Nat} (h : n ≤ s.heap.objs.size) : (cutS s n).heap.objs.size = n := by
  show (s.heap.objs.extract 0 n).size = n
  rw [Array.size_extract]
  omega

/-- the generator's context, re-laid upon the state in which it was woken -/
abbrev reX (X : Cx) (n : Nat) (s : Shared) (H : Hp) : Cx := { X with s_0 := cutS s n, H_0 := H }

/-- tuples stay; what is in C stays too: what the generator leaves -/
def Gd (C : Addr → Prop) (H H' : Hp) : Prop := ∀ b o, H b = some o → (C b ∨ ∃ xs, o = .tup xs) → H' b = some o
/-- what the consumer leaves: all that is not in C -/
def Wk (C : Addr → Prop) (H H' : Hp) : Prop := (∀ b o, H b = some o → (¬ C b ∨ (∃ xs, o = .tup xs) ∨ (∃ c d fs, o = .ins c d fs) ∨ ∃ ob xs, o = .frz ob (.tup xs)) → H' b = some o) ∧ ∀ b, H b ≠ none → H' b ≠ none

/-- the generator's frame over its consumer's -/
structure Lk (Xc X : Cx) (pins : List (Addr × Obj)) (n0 : Nat) : Prop where
  prog : X.prog = Xc.prog
  w : X.w = Xc.w
  K : X.K = Xc.K
  mg : X.mg = Xc.mg
  base : X.base = Xc.base
  outer : X.outer = Xc.stack
  ex : X.ex = []
  cells : X.env.cells = []
  pn : X.pn = []
  sz : X.s_0.heap.objs.size = n0
  ok : X.Ok
  fun0 : X.s_0.heap.FunFrames X.base X.outer
  c1 : Xc.s_0.heap.objs.size ≤ n0
  c2 : Xc.env.locals < n0
  c3 : ∀ x c, Xc.env.cells.lookup x = some c → c < n0
  c4 : ∀ p ∈ Xc.pn ++ pins, p.1 < n0

section
variable {Xc X : Cx} {pins : List (Addr × Obj)} {n0 : Nat}
theorem funFrames_cut {base : Heap} {s0 s : Shared} {n0 : Nat} (h0 : s0.heap.objs.size = n0) : ∀ {l : List Env}, s0.heap.FunFrames base l → s.heap.FunFrames base l → (cutS s n0).heap.FunFrames base l
  | [], _, _ => trivial
  | env :: l, ⟨k, ⟨L, o, e1, e2, e3, _⟩, r⟩, ⟨_, ⟨L', o', f1, f2, f3, f4⟩, r'⟩ => by
    have eL : L = L' := Option.some.inj (e1.symm.trans f1)
    subst eL
    have hL : L < n0 := by rw [← h0]; exact Heap.lt_size e3
    exact ⟨k, ⟨L, o', e1, e2, by rw [cut_get hL]; exact f3, f4⟩, funFrames_cut h0 r r'⟩
theorem Lk.fr (L : Lk Xc X pins n0) : ∀ b ∈ frs Xc.stack, b < n0 := fun b hb => by
  rw [← L.outer] at hb
  obtain ⟨_, o, e, _⟩ := L.fun0.mem hb
  rw [← L.sz]
  exact Heap.lt_size e

/-- what the generator has done, seen by the consumer -/
theorem toCons {gp : List (Addr × Obj)} {σc σ : L2.St} {Hw H : Hp} {s₀ s : Shared} (L : Lk Xc X pins n0) (Ic : Inv Xc pins σc Hw s₀) (Ig : Inv (reX X n0 s₀ Hw) gp σ H s) : Inv Xc pins σc H s := by
  have hb0 : ∀ b, b ∉ ((List.range s₀.heap.objs.size).filter fun b => decide (n0 ≤ b)) → ∀ o, s₀.heap.get? b = some o → b < n0 := fun b hn o e => by
    by_cases h : b < n0
    · exact h
    · exact absurd (List.mem_filter.mpr ⟨List.mem_range.mpr (Heap.lt_size e), decide_eq_true (Nat.le_of_not_lt h)⟩) hn
  have hfs : (reX X n0 s₀ Hw).fs = frs Xc.stack := by
    show frs X.outer = _
    rw [L.outer]
  have hex : (reX X n0 s₀ Hw).ex = [] := L.ex
  have hnex : ∀ b : Addr, b ∉ (reX X n0 s₀ Hw).ex := fun b hb => by rw [hex] at hb; cases hb
  have hok : HOk Xc.prog Xc.w H s.heap := by rw [← L.prog, ← L.w]; exact Ig.hok
  refine Ic.call' (ch := (List.range s₀.heap.objs.size).filter fun b => decide (n0 ≤ b)) Ig.os ⟨fun b o e n hb hc => ?_, fun b o e n hb hc => ?_, fun b o e n hc => ?_, fun b o e hc => ?_, Ig.base.tups, Ig.base.frzs, Ig.base.tbls⟩ hok Ig.bare (fun b hb => ?_)
  · exact Ig.base.keep b o ((cut_get (hb0 b hc o e)).trans e) n (by rw [hfs]; exact hb) (hnex b)
  · exact Ig.base.slot b o ((cut_get (hb0 b hc o e)).trans e) n (by rw [hfs]; exact hb) (hnex b)
  · exact Ig.base.free b o ((cut_get (hb0 b hc o e)).trans e) n (hnex b)
  · exact Ig.base.there b o ((cut_get (hb0 b hc o e)).trans e) (hnex b)
  · have hn : n0 ≤ b := of_decide_eq_true (List.mem_filter.mp hb).2
    exact ⟨.inr (Nat.le_trans L.c1 hn), Nat.ne_of_gt (Nat.lt_of_lt_of_le L.c2 hn), fun x c e z => absurd (L.c3 x c e) (by rw [z]; exact Nat.not_lt.mpr hn), fun p hp z => absurd (L.c4 p hp) (by rw [z]; exact Nat.not_lt.mpr hn)⟩

/-- what the generator's invariant leans on at its frame -/
def LocOf (X : Cx) (σ : L2.St) (h : Heap) : Prop := (∃ m, h.Ns X.env.locals m ∧ ∀ (i : Nat) (x : Str) (v : V), X.N[i]? = some x → σ[i]? = some (some v) → Vis X.env.scope x → ∃ u, RelV v u ∧ Look X.env h m x u) ∧ σ.length = X.N.length
theorem LocOf.to {X : Cx} {σ : L2.St} {h h' : Heap} (hc : X.env.cells = []) (l : LocOf X σ h) (k : ∀ o, h.get? X.env.locals = some o → h'.get? X.env.locals = some o) : LocOf X σ h' := by
  obtain ⟨⟨m, ⟨o, es, ep, ho, r⟩, f⟩, e⟩ := l
  refine ⟨⟨m, ⟨o, es, ep, k o ho, r⟩, fun i x v a b c => ?_⟩, e⟩
  obtain ⟨u, ru, q⟩ := f i x v a b c
  refine ⟨u, ru, ?_⟩
  rcases q with q | ⟨_, cc, hl, _⟩
  · exact .inl q
  · rw [hc] at hl
    cases hl
theorem Inv.locOf {X : Cx} {pins : List (Addr × Obj)} {σ : L2.St} {H : Hp} {s : Shared} (I : Inv X pins σ H s) : LocOf X σ s.heap := ⟨I.loc, I.len⟩
/-- the consumer's state, in which the generator is woken -/
theorem toGen {gp ex : List (Addr × Obj)} {σc σ : L2.St} {H : Hp} {s : Shared} (L : Lk Xc X pins n0) (Ic : Inv Xc (pins ++ ex) σc H s) (hs : n0 ≤ s.heap.objs.size) (hl : LocOf X σ s.heap) (hf : H X.env.locals = none)
    (hp : ∀ p ∈ gp, s.heap.get? p.1 = some p.2 ∧ H p.1 = none ∧ p.1 ≠ X.env.locals ∧ n0 ≤ p.1 ∧ ∀ v, p.2.data ≠ .cell v) : Inv (reX X n0 s H) gp σ H s := by
  have nc : ∀ x c, X.env.cells.lookup x = some c → False := fun x c e => by rw [L.cells] at e; cases e
  have nex : ∀ b : Addr, b ∉ X.ex := fun b hb => by rw [L.ex] at hb; cases hb
  have hst : frs X.outer = frs Xc.stack := by rw [L.outer]
  have hbz : X.base.objs.size ≤ n0 := by rw [← L.sz]; exact L.ok.bsz
  refine ⟨⟨?_, L.ok.kind, L.ok.glob, L.ok.blt, ?_, fun x y c e _ => (nc x c e).elim, L.ok.has, fun x c _ e => (nc x c e).elim, L.ok.hd, L.ok.frames, L.ok.stk, fun b hb => (nex b hb).elim, fun b o e => ?_, ?_, fun b _ _ => nex b, fun b hb => (nex b hb).elim, ?_, fun b hb => ?_⟩, rfl, Ic.bare, ?_, hl.1, fun x c e => (nc x c e).elim, hf, fun x c e => (nc x c e).elim, fun p hpp => ?_, ?_, hl.2⟩
  · show Mod X.K X.mg X.base
    rw [L.K, L.mg, L.base]
    exact Ic.mod
  · show (cutS s n0).heap.objs.size ≤ X.env.locals
    rw [cut_size hs, ← L.sz]
    exact L.ok.above
  · have e' : Xc.base.get? b = some o := by rw [← L.base]; exact e
    obtain ⟨q1, q2⟩ := Ic.bs b o e'
    exact ⟨(cut_get (Nat.lt_of_lt_of_le (Heap.lt_size e) hbz)).trans q1, q2⟩
  · show X.base.objs.size ≤ (cutS s n0).heap.objs.size
    rw [cut_size hs]
    exact hbz
  · show (cutS s n0).heap.FunFrames X.base X.outer
    refine funFrames_cut L.sz L.fun0 ?_
    rw [L.base, L.outer]
    exact Ic.stack
  · exact Ic.stkFree b (by rw [← hst]; exact hb)
  · exact Un.kept fun b o e => (cut_some e).2
  · have hpp' : p ∈ gp := by
      rcases List.mem_append.mp hpp with z | z
      · have z' : p ∈ X.pn := z
        rw [L.pn] at z'
        cases z'
      · exact z
    obtain ⟨q1, q2, q3, q4, q5⟩ := hp p hpp'
    refine ⟨q1, q2, q3, fun z => ?_, q5⟩
    have z' : p.1 ∈ frs Xc.stack := by rw [← hst]; exact z
    exact absurd (L.fr _ z') (Nat.not_lt.mpr q4)
  · show HOk X.prog X.w H s.heap
    rw [L.prog, L.w]
    exact Ic.hok
end

/-! ### the judgements -/
/-- what is wanted behind a statement of the generator: by the turns given out, the abstract heap at the last waking -/
structure GE where
  nx : Nat → Hp → L2.St → Hp → Prop
  rt : Nat → Hp → VK := fun _ _ _ _ => False
  bk : Nat → Hp → L2.St → Hp → Prop := fun _ _ _ _ => False
  ct : Nat → Hp → L2.St → Hp → Prop := fun _ _ _ _ => False
abbrev TG7 := GE → Nat → Hp → L2.St → Hp → Prop
def GE.at (D : GE) (i : Nat) (Hw : Hp) : Ends := { nx := D.nx i Hw, rt := D.rt i Hw, bk := D.bk i Hw, ct := D.ct i Hw }

/-- all that both sides hold fast: the consumer's context, its pins, where the generator's time begins, the consumer's word, what is the consumer's, the number of turns, the generator's context and own pins -/
structure Gp where
  Xc : Cx
  pins : List (Addr × Obj)
  n0 : Nat
  B : Nat → L2.St → Hp → Prop
  C : Addr → Prop
  M : Nat
  X : Cx
  gp : List (Addr × Obj)
structure Gp.Ok (G : Gp) : Prop where
  lk : Lk G.Xc G.X G.pins G.n0
  gp : ∀ p ∈ G.gp, p.1 ≠ G.X.env.locals ∧ G.n0 ≤ p.1 ∧ ∀ v, p.2.data ≠ .cell v
  never : G.X.xe = fun _ _ => False

/-- the state within the generator -/
def GI7 (G : Gp) (n i : Nat) (s₀ : Shared) (Hw : Hp) (σ : L2.St) (H : Hp) (s : Shared) : Prop :=
  n + i = G.M + 1 ∧ (∃ σc, Inv G.Xc G.pins σc Hw s₀ ∧ G.B i σc Hw) ∧ G.n0 ≤ s₀.heap.objs.size ∧ Inv (reX G.X G.n0 s₀ Hw) G.gp σ H s
def GP7 (G : Gp) (D : GE) (n : Nat) (s₀ : Shared) (f : Flow) (s : Shared) : Prop := match f with
  | .next => ∃ i Hw σ H, GI7 G n i s₀ Hw σ H s ∧ D.nx i Hw σ H
  | .brk => ∃ i Hw σ H, GI7 G n i s₀ Hw σ H s ∧ D.bk i Hw σ H
  | .cont => ∃ i Hw σ H, GI7 G n i s₀ Hw σ H s ∧ D.ct i Hw σ H
  | .ret u => ∃ i Hw v σ H, GI7 G n i s₀ Hw σ H s ∧ RelV v u ∧ D.rt i Hw v H
/-- an item is given out -/
def Y7 (G : Gp) : Protocol := fun n _ v s1 kap => ∃ i σc Hw H1 x ex, n + 1 + i = G.M + 1 ∧ i < G.M ∧ G.B i σc Hw ∧ Gd G.C Hw H1 ∧ RelV x v ∧ Inv G.Xc (G.pins ++ ex) σc H1 s1 ∧ (∀ p ∈ G.gp, p ∈ ex) ∧ G.n0 ≤ s1.heap.objs.size ∧
  ∀ s2 σ2 H2, Inv G.Xc (G.pins ++ ex) σ2 H2 s2 → G.n0 ≤ s2.heap.objs.size → G.B (i + 1) σ2 H2 → Wk G.C H1 H2 → kap (.send .none) s2
/-- the end -/
def F7 (G : Gp) (n : Nat) (_ s1 : Shared) : Prop := n = 1 ∧ ∃ σc Hw H1, G.B G.M σc Hw ∧ Gd G.C Hw H1 ∧ Inv G.Xc G.pins σc H1 s1
def R7 (G : Gp) : GenEnd := fun n s₀ r s1 => ((r = .ok (.ret .none) ∨ r = .ok .next) ∧ F7 G n s₀ s1) ∨ ∃ e, r = .error e ∧ False
structure GC7 (G : Gp) (A : Around) (c : Code) (fs : List Frame) (gd : Bool → Bool) : Prop where
  over : A.over c fs = G.X.A
  split : splitAtGen fs = none
  guard : fs.any Frame.guarded = false
  gd : gd false = false
abbrev Md (G : Gp) : Model := model G.X.prog G.X.w
def GK7 (G : Gp) (A : Around) (c : Code) (fs : List Frame) (K : Flow → Sem PySem.Fin) (D : GE) : Prop :=
  ∀ (n : Nat) (s₀ s : Shared) (f : Flow), GP7 G D n s₀ f s → Seg (Md G) A (R7 G) (Y7 G) n s₀ c (K f) fs s
structure GQ (G : Gp) (st : Stmt) (t : TG7) : Prop where
  run : ∀ (A : Around) (c : Code) (fs : List Frame) (K : Flow → Sem PySem.Fin) (J : Value → Sem PySem.Fin) (gd : Bool → Bool) (lv : List Value → List Value) (n i : Nat) (s₀ s : Shared) (Hw : Hp) (σ : L2.St) (H : Hp) (D : GE),
    GC7 G A c fs gd → GK7 G A c fs K D → GI7 G n i s₀ Hw σ H s → t D i Hw σ H → Seg (Md G) A (R7 G) (Y7 G) n s₀ c ((exec st G.X.env).wrap K J gd lv) fs s
structure GQs (G : Gp) (sts : List Stmt) (t : TG7) : Prop where
  run : ∀ (A : Around) (c : Code) (fs : List Frame) (K : Flow → Sem PySem.Fin) (J : Value → Sem PySem.Fin) (gd : Bool → Bool) (lv : List Value → List Value) (n i : Nat) (s₀ s : Shared) (Hw : Hp) (σ : L2.St) (H : Hp) (D : GE),
    GC7 G A c fs gd → GK7 G A c fs K D → GI7 G n i s₀ Hw σ H s → t D i Hw σ H → Seg (Md G) A (R7 G) (Y7 G) n s₀ c ((execs sts G.X.env).wrap K J gd lv) fs s

section
variable {G : Gp} {st : Stmt} {rest sts : List Stmt}
def tPl (t : TS) : TG7 := fun D i Hw σ H => t (D.at i Hw) σ H
theorem gp_of_sp {n i : Nat} {s₀ s : Shared} {Hw : Hp} {D : GE} {f : Flow} (h1 : n + i = G.M + 1) (h2 : ∃ σc, Inv G.Xc G.pins σc Hw s₀ ∧ G.B i σc Hw) (h3 : G.n0 ≤ s₀.heap.objs.size) (h : SP (reX G.X G.n0 s₀ Hw) G.gp (D.at i Hw) f s) : GP7 G D n s₀ f s := by
  cases f with
  | next =>
    obtain ⟨σ, H, I, q⟩ := h
    exact ⟨i, Hw, σ, H, ⟨h1, h2, h3, I⟩, q⟩
  | brk =>
    obtain ⟨σ, H, I, q⟩ := h
    exact ⟨i, Hw, σ, H, ⟨h1, h2, h3, I⟩, q⟩
  | cont =>
    obtain ⟨σ, H, I, q⟩ := h
    exact ⟨i, Hw, σ, H, ⟨h1, h2, h3, I⟩, q⟩
  | ret u =>
    obtain ⟨v, σ, H, I, r, q⟩ := h
    exact ⟨i, Hw, v, σ, H, ⟨h1, h2, h3, I⟩, r, q⟩
theorem gq_ps (hG : G.Ok) {t : TS} (h : ∀ s H, PS (reX G.X G.n0 s H) st t) : GQ G st (tPl t) := by
  refine ⟨fun A c fs K J gd lv n i s₀ s Hw σ H D g k hI ht => ?_⟩
  obtain ⟨h1, h2, h3, I⟩ := hI
  refine seg_wrap ?_
  rw [g.over]
  refine wpAny_mono ((h s₀ Hw).run _ s σ H (D.at i Hw) I ht) (fun f s' hs => k n s₀ s' f (gp_of_sp h1 h2 h3 hs)) fun x s' hx => ?_
  have hx' : G.X.xe x s' := hx
  rw [hG.never] at hx'
  exact hx'.elim
theorem gqs_pss (hG : G.Ok) {t : TS} (h : ∀ s H, PSs (reX G.X G.n0 s H) sts t) : GQs G sts (tPl t) := by
  refine ⟨fun A c fs K J gd lv n i s₀ s Hw σ H D g k hI ht => ?_⟩
  obtain ⟨h1, h2, h3, I⟩ := hI
  refine seg_wrap ?_
  rw [g.over]
  refine wpAny_mono ((h s₀ Hw).run _ s σ H (D.at i Hw) I ht) (fun f s' hs => k n s₀ s' f (gp_of_sp h1 h2 h3 hs)) fun x s' hx => ?_
  have hx' : G.X.xe x s' := hx
  rw [hG.never] at hx'
  exact hx'.elim
def tG7nil : TG7 := fun D i Hw σ H => D.nx i Hw σ H
theorem gqs_nil : GQs G [] tG7nil := ⟨fun A c fs K J gd lv n i s₀ s Hw σ H D g k hI ht => seg_execs_nil (k n s₀ s .next ⟨i, Hw, σ, H, hI, ht⟩)⟩
def tG7seq (t u : TG7) : TG7 := fun D i Hw σ H => t { D with nx := fun i' Hw' σ' H' => u D i' Hw' σ' H' } i Hw σ H
theorem gqs_cons {t u : TG7} (a : GQ G st t) (b : GQs G rest u) : GQs G (st :: rest) (tG7seq t u) := by
  refine ⟨fun A c fs K J gd lv n i s₀ s Hw σ H D g k hI ht => seg_execs_cons (a.run A c fs _ J gd lv n i s₀ s Hw σ H _ g (fun n' s₀' s' f hs => ?_) hI ht)⟩
  cases f with
  | next =>
    obtain ⟨i', Hw', σ', H', I', q⟩ := hs
    exact b.run A c fs K J gd lv n' i' s₀' s' Hw' σ' H' D g k I' q
  | brk => exact k n' s₀' s' .brk hs
  | cont => exact k n' s₀' s' .cont hs
  | ret u => exact k n' s₀' s' (.ret u) hs
theorem gqs_one {t : TG7} (a : GQ G st t) : GQs G [st] (tG7seq t tG7nil) := gqs_cons a gqs_nil
def tG7if (tc : TT) (t u : TG7) : TG7 := fun D i Hw σ H => tc σ H fun b H1 => if b = true then t D i Hw σ H1 else u D i Hw σ H1
theorem gq_if (hG : G.Ok) {test : Expr} {a b : List Stmt} {pos : Pos} {tc : TT} {t u : TG7} (hc : ∀ s H, PT (reX G.X G.n0 s H) test tc) (ha : GQs G a t) (hb : GQs G b u) : GQ G (.If test a b pos) (tG7if tc t u) := by
  refine ⟨fun A c fs K J gd lv n i s₀ s Hw σ H D g k hI ht => ?_⟩
  obtain ⟨h1, h2, h3, I⟩ := hI
  rw [exec_If]
  refine seg_bind_wrap (wpAny_standAt (seg_bind_wrap ?_))
  rw [g.over]
  refine wpAny_mono ((hc s₀ Hw).run _ s σ H _ I ht) (fun d s' hd => ?_) fun x s' hx => ?_
  · obtain ⟨H2, I2, q⟩ := hd
    cases d with
    | true => exact ha.run A c fs K J gd lv n i s₀ s' Hw σ H2 D g k ⟨h1, h2, h3, I2⟩ q
    | false => exact hb.run A c fs K J gd lv n i s₀ s' Hw σ H2 D g k ⟨h1, h2, h3, I2⟩ q
  · have hx' : G.X.xe x s' := hx
    rw [hG.never] at hx'
    exact hx'.elim
end
end K37
end
section
set_option Elab.async false
set_option linter.all false
set_option maxRecDepth 100000
set_option maxHeartbeats 1000000
namespace K37
open PySem PySem.Spec PyProof.Rows L2 GenW

section
variable {G : Gp}
/-! ### while -/
def tG7while (tc : TT) (tb : TG7) : TG7 := fun D i Hw σ H => ∃ W : Nat → Nat → Hp → L2.St → Hp → Prop, (∃ m, W m i Hw σ H) ∧ ∀ m i Hw σ H, W m i Hw σ H → tc σ H fun b H1 =>
  if b = true then ∃ N : Nat → Hp → L2.St → Hp → Prop, (∀ i' Hw' σ' H', N i' Hw' σ' H' → ∃ m', m' < m ∧ W m' i' Hw' σ' H') ∧ tb { D with nx := N, ct := N, bk := D.nx } i Hw σ H1 else D.nx i Hw σ H1
theorem gq_while (hG : G.Ok) {test : Expr} {body : List Stmt} {pos : Pos} {tc : TT} {tb : TG7} (hc : ∀ s H, PT (reX G.X G.n0 s H) test tc) (hb : GQs G body tb) : GQ G (.While test body [] pos) (tG7while tc tb) := by
  refine ⟨fun A c fs K J gd lv n i s₀ s Hw σ H D g k hI ht => ?_⟩
  obtain ⟨W, ⟨m0, w0⟩, turn⟩ := ht
  refine seg_While fun p => ?_
  have gl : ∀ kk, GC7 G A (.whileLoop test body [] G.X.env) (.ret kk none (gd false) (lv []) c p [] :: fs) id := fun kk =>
    ⟨(over_loop rfl rfl).trans g.over, by show (splitAtGen fs).map _ = none; rw [g.split]; rfl, by show (gd false || fs.any Frame.guarded) = false; rw [g.gd, g.guard]; rfl, rfl⟩
  suffices loop : ∀ (m n i : Nat) (s₀ s : Shared) (Hw : Hp) (σ : L2.St) (H : Hp), W m i Hw σ H → GI7 G n i s₀ Hw σ H s → Seg (Md G) A (R7 G) (Y7 G) n s₀ (.whileLoop test body [] G.X.env) ((Md G).den (.whileLoop test body [] G.X.env))
      (.ret (fun r => ((match r with | .ok f => (.pure f : Sem Flow) | .error e => .raise e).onRaise (cameBack G.X.env)).wrap K J gd lv) none (gd false) (lv []) c p [] :: fs) s from loop m0 n i s₀ s Hw σ H w0 hI
  intro m
  induction m using Nat.strongRecOn with
  | ind m ih =>
    intro n i s₀ s Hw σ H hw hI
    obtain ⟨h1, h2, h3, I⟩ := hI
    have never : ∀ {Φ : Prop} {x : Value} {s' : Shared}, (reX G.X G.n0 s₀ Hw).xe x s' → Φ := fun {Φ x s'} hx => by
      have hx' : G.X.xe x s' := hx
      rw [hG.never] at hx'
      exact hx'.elim
    refine seg_whileLoop ?_
    rw [(gl _).over]
    refine wpAny_mono ((hc s₀ Hw).run _ s σ H _ I (turn m i Hw σ H hw)) (fun b s' hb' => ?_) fun x s' hx => never hx
    obtain ⟨H2, I2, q2⟩ := hb'
    cases b with
    | false =>
      rw [if_neg Bool.false_ne_true]
      exact seg_execs_nil (seg_leaf (.ok .next) (k n s₀ s' .next ⟨i, Hw, σ, H2, ⟨h1, h2, h3, I2⟩, q2⟩))
    | true =>
      obtain ⟨N, hN, q2⟩ := q2
      rw [if_pos rfl]
      refine hb.run A _ _ _ _ id id n i s₀ s' Hw σ H2 { D with nx := N, ct := N, bk := D.nx } (gl _) (fun n' s₀' s3 f hs => ?_) ⟨h1, h2, h3, I2⟩ q2
      have again : ∀ {i' Hw' σ' H'}, N i' Hw' σ' H' → GI7 G n' i' s₀' Hw' σ' H' s3 → Seg (Md G) A (R7 G) (Y7 G) n' s₀' (.whileLoop test body [] G.X.env) (.pure (.again (.whileLoop test body [] G.X.env)))
          (.ret (fun r => ((match r with | .ok f => (.pure f : Sem Flow) | .error e => .raise e).onRaise (cameBack G.X.env)).wrap K J gd lv) none (gd false) (lv []) c p [] :: fs) s3 := fun {i' Hw' σ' H'} hn hi => by
        obtain ⟨m', hm, w3⟩ := hN i' Hw' σ' H' hn
        exact seg_again rfl (ih m' hm n' i' s₀' s3 Hw' σ' H' w3 hi)
      cases f with
      | next =>
        obtain ⟨i', Hw', σ', H', I', hn⟩ := hs
        exact again hn I'
      | cont =>
        obtain ⟨i', Hw', σ', H', I', hn⟩ := hs
        exact again hn I'
      | brk => exact seg_leaf (.ok .next) (k n' s₀' s3 .next hs)
      | ret v => exact seg_leaf (.ok (.ret v)) (k n' s₀' s3 (.ret v) hs)

/-! ### yield -/
/-- the consumer holds the generator's frame and object fast -/
theorem withEx (hG : G.Ok) {σc σ : L2.St} {Hw H : Hp} {s₀ s : Shared} (Ic : Inv G.Xc G.pins σc H s) (Ig : Inv (reX G.X G.n0 s₀ Hw) G.gp σ H s) : ∃ ol, s.heap.get? G.X.env.locals = some ol ∧ Inv G.Xc (G.pins ++ ((G.X.env.locals, ol) :: G.gp)) σc H s := by
  obtain ⟨m, ⟨ol, es, ep, ho, hcd⟩, _⟩ := Ig.loc
  have hL : G.n0 ≤ G.X.env.locals := by rw [← hG.lk.sz]; exact hG.lk.ok.above
  have hfs : ∀ b, G.n0 ≤ b → b ≠ G.Xc.env.locals ∧ b ∉ G.Xc.fs := fun b hb => by
    refine ⟨Nat.ne_of_gt (Nat.lt_of_lt_of_le hG.lk.c2 hb), fun hm => ?_⟩
    obtain ⟨_, o, e, _⟩ := Ic.ok.funs.mem hm
    exact absurd (Nat.lt_of_lt_of_le (Heap.lt_size e) hG.lk.c1) (Nat.not_lt.mpr hb)
  refine ⟨ol, ho, Ic.pins_of fun p hp => ?_⟩
  rcases List.mem_append.mp hp with z | z
  · exact Ic.pin p (List.mem_append_right _ z)
  · rcases List.mem_cons.mp z with z | z
    · subst z
      refine ⟨ho, Ig.free, (hfs _ hL).1, (hfs _ hL).2, fun v q => ?_⟩
      first
        | (rw [hcd.2.1] at q; cases q)
        | (rw [hcd.1] at q; cases q)
        | (rw [hcd.2.2.1] at q; cases q)
    · obtain ⟨g1, g2, g3⟩ := hG.gp p z
      obtain ⟨q1, q2, _⟩ := Ig.pin p (List.mem_append_right _ z)
      exact ⟨q1, q2, (hfs _ g2).1, (hfs _ g2).2, g3⟩
/-- the generator's invariant at a waking -/
theorem woken7 (hG : G.Ok) {σc σ : L2.St} {H : Hp} {s1 s : Shared} {ol : Obj} (l : LocOf G.X σ s1.heap) (ho : s1.heap.get? G.X.env.locals = some ol) (Ic : Inv G.Xc (G.pins ++ ((G.X.env.locals, ol) :: G.gp)) σc H s) (hs : G.n0 ≤ s.heap.objs.size) : Inv (reX G.X G.n0 s H) G.gp σ H s := by
  obtain ⟨p1, p2, _⟩ := Ic.pin (G.X.env.locals, ol) (List.mem_append_right _ (List.mem_append_right _ List.mem_cons_self))
  refine toGen hG.lk Ic hs (l.to hG.lk.cells fun o e => ?_) p2 fun p hp => ?_
  · rw [ho] at e
    cases e
    exact p1
  · obtain ⟨q1, q2, _⟩ := Ic.pin p (List.mem_append_right _ (List.mem_append_right _ (List.mem_cons_of_mem _ hp)))
    obtain ⟨g1, g2, g3⟩ := hG.gp p hp
    exact ⟨q1, q2, g1, g2, g3⟩
def tG7yield (G : Gp) (te : TE) : TG7 := fun D i Hw σ H => i < G.M ∧ te σ H fun x H1 => Gd G.C Hw H1 ∧ ∀ H2, Wk G.C H1 H2 → D.nx (i + 1) H2 σ H2
theorem gq_yield (hG : G.Ok) {e : Expr} {yp pos : Pos} {te : TE} (he : ∀ s H, PE (reX G.X G.n0 s H) e te) (hco : G.X.env.scope.isCoroutine = false) (hi : interactive G.X.env = false) : GQ G (.Expr (.Yield (some e) yp) pos) (tG7yield G te) := by
  refine ⟨fun A c fs K J gd lv n i s₀ s Hw σ H D g k hI ht => ?_⟩
  obtain ⟨hlt, ht⟩ := ht
  obtain ⟨h1, ⟨σc, Ic, hB⟩, h3, I⟩ := hI
  obtain ⟨m, rfl⟩ : ∃ m, n = m + 1 := ⟨n - 1, by omega⟩
  refine seg_Expr_Yield g.split g.gd g.guard ?_ hco hi
  rw [g.over]
  refine wpAny_mono ((he s₀ Hw).run _ s σ H _ I ht) (fun v s' hv => ?_) fun x s' hx => ?_
  · obtain ⟨x, H1, I1, rv, hgd, q⟩ := hv
    intro kap hk
    have Ic1 := toCons hG.lk Ic I1
    obtain ⟨ol, ho, Ic2⟩ := withEx hG Ic1 I1
    have hsz : G.n0 ≤ s'.heap.objs.size := by
      have a1 : G.n0 ≤ G.X.env.locals := by rw [← hG.lk.sz]; exact hG.lk.ok.above
      exact Nat.le_trans a1 (Nat.le_of_lt (Heap.lt_size ho))
    refine ⟨i, σc, Hw, H1, x, _, h1, hlt, hB, hgd, rv, Ic2, fun p hp => List.mem_cons_of_mem _ hp, hsz, fun s2 σ2 H2 Ic3 hz2 hB2 hwk => ?_⟩
    refine hk .none s2 (k m s2 s2 .next ⟨i + 1, H2, σ, H2, ⟨by omega, ⟨σ2, ?_, hB2⟩, hz2, ?_⟩, q H2 hwk⟩)
    · exact Ic3.pins_of fun p hp => Ic3.pin p (List.mem_append_right _ (List.mem_append_left _ hp))
    · exact woken7 hG (s1 := s') ⟨I1.loc, I1.len⟩ ho Ic3 hz2
  · have hx' : G.X.xe x s' := hx
    rw [hG.never] at hx'
    exact hx'.elim
end
end K37
end
section
set_option Elab.async false
set_option linter.all false
set_option maxRecDepth 100000
set_option maxHeartbeats 1000000
namespace K37
open PySem PySem.Spec PyProof.Rows L2 GenW

/-- the generator's own context, at its call -/
abbrev gX (P : Program) (w : World) (K : PySem.W.Frag) (mg : Str → Option Value) (base : Heap) (N : List Str) (qual : Str) (scope : Scope) (f : Addr) (cd : Value) (A : Around) (outer : List Env) (s : Shared) (H : Hp) : Cx :=
  (gcxOf P w K mg base N qual scope f cd A outer s H E0 []).nox
def Ready (G : Gp) (i : Nat) (ex : List (Addr × Obj)) (Hl : Hp) (gs : GenState) : Prop :=
  ∀ s3 σ3 H3, Inv G.Xc (G.pins ++ ex) σ3 H3 s3 → G.n0 ≤ s3.heap.objs.size → G.B i σ3 H3 → Wk G.C Hl H3 → (i = 0 → H3 = Hl) → gs.Goes (Md G) G.Xc.A.in1 (R7 G) (Y7 G) (G.M + 1 - i) (.send .none) s3
def GObj (go : Obj) (g : Nat) : Prop := go.cls = .type "generator" ∧ (∃ nm qn, go.data = .fields #[.int g 0, nm, qn]) ∧ go.slots = #[]
/-- a generator that has not begun -/
def Made7 (G : Gp) (σ : L2.St) (H : Hp) (u : Value) (s' : Shared) : Prop :=
  ∃ a g gs ex go, u = .ref a ∧ Inv G.Xc (G.pins ++ ex) σ H s' ∧ GObj go g ∧ (a, go) ∈ ex ∧ (a, go) ∈ G.gp ∧ G.n0 ≤ s'.heap.objs.size ∧ s'.gens[g]? = some gs ∧ gs.bare = true ∧ Ready G 0 ex H gs
abbrev SpG7 := List V → Hp → Nat → Prop
/-- a generator def's promise, for whoever draws it -/
structure GD7 (P : Program) (w : World) (K : PySem.W.Frag) (mg : Str → Option Value) (base : Heap) (k : Nat) (f : Addr) (fd : FuncData) (ps : List Str) (sp : SpG7) : Prop where
  len : ∀ vs H M, sp vs H M → vs.length = ps.length
  made : ∀ (Xc : Cx) (pins : List (Addr × Obj)) (s : Shared) (σ : L2.St) (H : Hp) (us : List Value) (vs : List V) (M : Nat) (B : Nat → L2.St → Hp → Prop), Xc.prog = P → Xc.w = w → Xc.K = K → Xc.mg = mg → Xc.base = base → Room k Xc.A →
    BindsTo s fd ⟨us, []⟩ (ps.zip us) → Inv Xc pins σ H s → Vals vs us → sp vs H M → B 0 σ H →
    codeAny (model P w) Xc.A (.call (.ref f) ⟨us, []⟩) (fun r s' => match r with
      | .ok (.ret u) => ∃ G : Gp, G.Ok ∧ G.Xc = Xc ∧ G.pins = pins ∧ G.B = B ∧ G.C = (fun b => H b ≠ none) ∧ G.M = M ∧ Made7 G σ H u s'
      | _ => False) s

theorem gd7_of {P : Program} {w : World} {K : PySem.W.Frag} {mg : Str → Option Value} {base : Heap} {k : Nat} {f : Addr} {x qual : Str} {params : Arguments} {body : List Stmt} {scope : Scope} {dvs : List V} {kws : List (Str × V)} {fd : FuncData} {N ps : List Str} {sp : SpG7}
    (F : FunD K x qual params body scope dvs kws f fd) (S : GScope N ps scope) (nocell : cellsFrom 0 scope.names [] = [] ∧ ∀ n, cellsFrom n scope.names [] = []) (len : ∀ vs H M, sp vs H M → vs.length = ps.length)
    (hbody : ∀ (cdv : Value) (A : Around) (outer : List Env) (s : Shared) (H : Hp) (vs : List V) (M : Nat), Room k (A.deeper (envOfC qual scope s.heap.objs.size f cdv)) → sp vs H M →
      ∀ (Xc : Cx) (pins gp : List (Addr × Obj)) (n0 : Nat) (B : Nat → L2.St → Hp → Prop), (⟨Xc, pins, n0, B, fun b => H b ≠ none, M, gX P w K mg base N qual scope f cdv A outer s H, gp⟩ : Gp).Ok →
        ∃ t, GQs ⟨Xc, pins, n0, B, fun b => H b ≠ none, M, gX P w K mg base N qual scope f cdv A outer s H, gp⟩ body t ∧ t { nx := fun i Hw _ H' => i = M ∧ Gd (fun b => H b ≠ none) Hw H' } 0 H (start N vs) H) :
    GD7 P w K mg base (k + 2) f fd ps sp := by
  obtain ⟨oc, od, dV, kV, doc, pm, an, cdv, ct, osl, rfl, lk, hcd, _, _⟩ := F.ex
  refine ⟨len, fun Xc pins s σ H us vs M B hP hw hK hmg hbase hr hb I r hsp hB => ?_⟩
  subst hP hw hK hmg hbase
  have hl := len _ _ _ hsp
  have KX : Xc.K.In s.heap := I.kIn
  have lim : s.heap.NoLimit := I.nolimit
  have e0 : Env0 Xc.prog Xc.w Xc.K Xc.mg Xc.base Xc.A.in1 Xc.stack s H := I.env0.in1
  have hr1 : Room (k + 1) Xc.A.in1 := hr.in1
  have hkind : ∀ y ∈ ps.zip us, scope.names.lookup y.1 = some .local ∨ (scope.names.lookup y.1 = some .cell ∧ ((cellsFrom (s.heap.objs.size + 1) scope.names []).lookup y.1).isSome = true) := fun ⟨nm, v⟩ hy =>
    (S.par nm (List.of_mem_zip hy).1).elim .inl fun q => .inr ⟨q, PySem.W.cellsFrom_some _ _ _ (.inl q)⟩
  refine codeAny_call_generator hr.depth (KX _ _ lk) rfl S.co S.gen rfl (PySem.W.codeRec_of KX hcd) (hb _ _ _ _ ?_)
  refine wpAny_newFunctionEnv_cells S.kind hkind fun env he s1 hx => ?_
  subst he
  have lim1 : s1.heap.NoLimit := lim.keeps hx.toInCall.keep
  refine ⟨lim1, ?_⟩
  have lt1 : s.heap.objs.size < s1.heap.objs.size := hx.toInCall.ns.lt
  have kp1 : ∀ b o, s.heap.get? b = some o → s1.heap.get? b = some o := hx.toInCall.keep
  obtain ⟨h1, tk1, es1, _⟩ := hx.done
  have os1 : s1.os = s.os := by rw [es1]
  have gen1 : s1.gens = s.gens := by rw [es1]
  have I1 : Inv (gX Xc.prog Xc.w Xc.K Xc.mg Xc.base N qual scope f cdv Xc.A.in1 Xc.stack s H) [] (start N vs) H s1 := (inv_startG (E := E0) S hr1.hd e0 hl r hx).wish _
  -- the generator's object is laid
  have main : ∀ (go : Obj) (s2 : Shared) (h2 : Heap), GObj go s1.gens.size → s2.heap = h2 → s2.os = s1.os → s2.gens = s1.gens.push (.fresh (.func body (envOfC qual scope s.heap.objs.size f cdv))) → h2.get? s1.heap.objs.size = some go →
      (∀ b o, s1.heap.get? b = some o → h2.get? b = some o) →
      ∃ G : Gp, G.Ok ∧ G.Xc = Xc ∧ G.pins = pins ∧ G.B = B ∧ G.C = (fun b => H b ≠ none) ∧ G.M = M ∧ Made7 G σ H (.ref s1.heap.objs.size) s2 := by
    intro go s2 h2 hgo eh eos egn eat kp2
    subst eh
    have kp02 : ∀ b o, s.heap.get? b = some o → s2.heap.get? b = some o := fun b o e => kp2 b o (kp1 b o e)
    have bare2 : AllBare s2.gens := by
      rw [egn]
      exact AllBare.push (by rw [gen1]; exact I.bare) rfl
    have I2 : Inv (gX Xc.prog Xc.w Xc.K Xc.mg Xc.base N qual scope f cdv Xc.A.in1 Xc.stack s H) [] (start N vs) H s2 := I1.call' (ch := []) eos (Un.kept kp2) (I1.hok.kept kp2) bare2 fun b z => by simp at z
    have Ic : Inv Xc pins σ H s2 := I.call' (ch := []) (eos.trans os1) (Un.kept kp02) (I.hok.kept kp02) bare2 fun b z => by simp at z
    have gcell : ∀ v, go.data ≠ .cell v := fun v q => by
      obtain ⟨_, ⟨nm, qn, hd⟩, _⟩ := hgo
      rw [hd] at q
      cases q
    have lk7 : Lk Xc (gX Xc.prog Xc.w Xc.K Xc.mg Xc.base N qual scope f cdv Xc.A.in1 Xc.stack s H) pins s.heap.objs.size := by
      refine ⟨rfl, rfl, rfl, rfl, rfl, rfl, rfl, nocell.2 _, rfl, rfl, I1.ok, I.stack, Nat.le_trans I.ok.above (Nat.le_of_lt I.lt), I.lt, fun y c e => ?_, fun p hp => ?_⟩
      · obtain ⟨v, ob, ho, _⟩ := I.cell y c e
        exact Heap.lt_size ho
      · exact Heap.lt_size (I.pin p hp).1
    have hok : (⟨Xc, pins, s.heap.objs.size, B, fun b => H b ≠ none, M, gX Xc.prog Xc.w Xc.K Xc.mg Xc.base N qual scope f cdv Xc.A.in1 Xc.stack s H, [(s1.heap.objs.size, go)]⟩ : Gp).Ok := by
      refine ⟨lk7, fun p hp => ?_, rfl⟩
      rw [List.mem_singleton.mp hp]
      exact ⟨Nat.ne_of_gt lt1, Nat.le_of_lt lt1, gcell⟩
    have I3 : Inv (reX (gX Xc.prog Xc.w Xc.K Xc.mg Xc.base N qual scope f cdv Xc.A.in1 Xc.stack s H) s.heap.objs.size s2 H) [(s1.heap.objs.size, go)] (start N vs) H s2 := by
      refine toGen (ex := []) lk7 (by rw [List.append_nil]; exact Ic) ?_ ⟨I2.loc, I2.len⟩ I2.free fun p hp => ?_
      · exact Nat.le_trans (Nat.le_of_lt lt1) (Nat.le_of_lt (Heap.lt_size eat))
      · rw [List.mem_singleton.mp hp]
        exact ⟨eat, I1.hok.fresh (Nat.le_refl _), Nat.ne_of_gt lt1, Nat.le_of_lt lt1, gcell⟩
    obtain ⟨ol, ho, Ic2⟩ := withEx hok (σc := σ) (Hw := H) (s₀ := s2) Ic I3
    refine ⟨_, hok, rfl, rfl, rfl, rfl, rfl, s1.heap.objs.size, s1.gens.size, .fresh (.func body (envOfC qual scope s.heap.objs.size f cdv)), _, go, rfl, Ic2, hgo, List.mem_cons_of_mem _ (List.mem_singleton.mpr rfl), List.mem_singleton.mpr rfl, Nat.le_trans (Nat.le_of_lt lt1) (Nat.le_of_lt (Heap.lt_size eat)), ?_, rfl, ?_⟩
    · rw [egn]
      exact Array.getElem?_push_size ..
    · intro s3 σ3 H3 Ic3 hz3 hB3 hwk3 hz0
      obtain rfl := hz0 rfl
      refine ⟨rfl, seg_func ?_⟩
      have I4 := woken7 hok (s1 := s2) ⟨I2.loc, I2.len⟩ ho Ic3 hz3
      have Ic4 : Inv Xc pins σ3 H3 s3 := Ic3.pins_of fun p hp => Ic3.pin p (List.mem_append_right _ (List.mem_append_left _ hp))
      obtain ⟨t, ht, hq⟩ := hbody cdv Xc.A.in1 Xc.stack s H3 vs M (hr1.deeper _) hsp Xc pins [(s1.heap.objs.size, go)] s.heap.objs.size B hok
      refine ht.run Xc.A.in1 _ [] _ _ id id (M + 1) 0 s3 s3 H3 (start N vs) H3 _ ⟨over_func, rfl, rfl, rfl⟩ (fun n s₀ s' fl hs => ?_) ⟨rfl, ⟨σ3, Ic4, hB3⟩, hz3, I4⟩ hq
      cases fl with
      | next =>
        obtain ⟨i, Hw, σ', H', ⟨g1, ⟨σc, g2, g3⟩, g4, g5⟩, em, hgd⟩ := hs
        have hn1 : n = 1 := by
          have g1' : n + i = M + 1 := g1
          omega
        have g3' : B M σc Hw := em ▸ g3
        exact seg_end (.ok (.ret .none)) (.inl ⟨.inl rfl, hn1, σc, Hw, H', g3', hgd, toCons lk7 g2 g5⟩)
      | brk =>
        obtain ⟨_, _, _, _, _, q⟩ := hs
        exact q.elim
      | cont =>
        obtain ⟨_, _, _, _, _, q⟩ := hs
        exact q.elim
      | ret u =>
        obtain ⟨_, _, _, _, _, _, _, q⟩ := hs
        exact q.elim
  exact main _ _ _ ⟨rfl, ⟨_, _, rfl⟩, rfl⟩ rfl rfl rfl (Heap.get?_push_size _ rfl) fun b o e => Heap.get?_push_of_some _ e
end K37
end
section
set_option Elab.async false
set_option linter.all false
set_option maxRecDepth 100000
set_option maxHeartbeats 1000000
namespace K37
open PySem PySem.Spec PyProof.Rows L2 GenW

theorem gobj_at {h : Heap} {a : Addr} {g : Nat} {go : Obj} (o : GObj go g) (e : h.get? a = some go) : h.IsGen a g := by
  obtain ⟨h1, ⟨nm, qn, h2⟩, h3⟩ := o
  exact ⟨go, nm, qn, e, h1, h2, h3⟩
/-- only the table of generators has changed -/
theorem Inv.gens {X : Cx} {pins : List (Addr × Obj)} {σ : L2.St} {H : Hp} {s : Shared} {h' : Heap} {gs : Array GenState} (I : Inv X pins σ H s) (k : ∀ b o, s.heap.get? b = some o → h'.get? b = some o) (hb : AllBare gs) : Inv X pins σ H { s with heap := h', gens := gs } :=
  I.call' (ch := []) rfl (Un.kept k) (I.hok.kept k) hb fun b z => by simp at z

/-- the loop's target and body: they leave the table of generators as it is -/
structure QB (Xc : Cx) (tg : Expr) (body : List Stmt) (tq : V → L2.St → Hp → (L2.St → Hp → Prop) → Prop) : Prop where
  run : ∀ (pins : List (Addr × Obj)) (s : Shared) (σ : L2.St) (H : Hp) (x : V) (u : Value) (Q : L2.St → Hp → Prop), Inv Xc pins σ H s → RelV x u → tq x σ H Q →
    wpAny (model Xc.prog Xc.w) Xc.A (assign tg Xc.env u) (fun _ s2 => wpAny (model Xc.prog Xc.w) Xc.A (execs body Xc.env) (fun f s3 => (f = .next ∨ f = .cont) ∧ s3.gens = s.gens ∧ ∃ σ3 H3, Inv Xc pins σ3 H3 s3 ∧ Q σ3 H3) Xc.xe s2) Xc.xe s
def tForG (sp : SpG7) (ta : TA) (tq : V → L2.St → Hp → (L2.St → Hp → Prop) → Prop) : TS := fun D σ H => ta σ H fun vs H1 => ∃ (M : Nat) (B : Nat → L2.St → Hp → Prop), sp vs H1 M ∧ B 0 σ H1 ∧
  (∀ i x σ' H' H'', i < M → B i σ' H' → Gd (fun b => H1 b ≠ none) H' H'' → tq x σ' H'' fun σ3 H3 => B (i + 1) σ3 H3 ∧ Wk (fun b => H1 b ≠ none) H'' H3) ∧
  ∀ σ' H' H'', B M σ' H' → Gd (fun b => H1 b ≠ none) H' H'' → D.nx σ' H''

theorem ps_forGen {Xc : Cx} {k : Nat} {f : Addr} {fd : FuncData} {ps : List Str} {sp : SpG7} {nm : Str} {tg e : Expr} {es : List Expr} {body : List Stmt} {p pos pos' : Pos} {ta : TA} {tq : V → L2.St → Hp → (L2.St → Hp → Prop) → Prop}
    (hp : PassesOwn (model Xc.prog Xc.w) Xc.A Xc.env Xc.xe) (hcalm : Xc.calm = true) (F : GD7 Xc.prog Xc.w Xc.K Xc.mg Xc.base k f fd ps sp) (hr : Room k Xc.A) (hg : Gl Xc nm) (hm : Xc.mg nm = some (.ref f)) (hk : PySem.W.keepIn Xc.K (.ref f) = true) (hb : Binds Xc.K fd ps [])
    (ha : PA Xc (e :: es) ta) (hq : QB Xc tg body tq) (hdb : (nm == ("__debug__" : Str)) = false := by decide) (he : starEach (e :: es) Xc.env = (false, eval e Xc.env) :: starEach es Xc.env := by rfl) (hpl : (backTo pos' (starEach es Xc.env)).any (·.1) = false := by rfl)
    (hs : ∀ x, foldedSetIterable (.Call (.Name nm p) (e :: es) [] pos') Xc.env x = pure x := by intro _; rfl) :
    PS Xc (.For tg (.Call (.Name nm p) (e :: es) [] pos') body [] pos) (tForG sp ta tq) := by
  refine ⟨fun pins s σ H D I h => ?_⟩
  refine wpAny_For ?_ hs
  refine wpAny_Call_Name_kw (ld_glob I hg hm ?_ hdb)
  refine PySem.W.callWith_K (h₀ := Xc.base) I.ok.mod.kin hk (thn (ha.run pos' pins s σ H _ I h) fun us s1 hx => ?_) he hpl
  obtain ⟨vs, H1, I1, r, M, B, hsp, b0, turn, fin⟩ := hx
  refine ⟨I1.kIn, ?_⟩
  have hl : us.length = ps.length := by rw [← r.length]; exact F.len _ _ _ hsp
  have hbt : BindsTo s1 fd ⟨us, []⟩ (ps.zip us) := by
    have q := hb s1 us I1.kIn (by rw [List.append_nil]; exact hl)
    rw [List.append_nil] at q
    exact q
  show wpAny (model Xc.prog Xc.w) Xc.A (call (.ref f) ([] ++ us)) _ _ s1
  rw [List.nil_append]
  refine wpAny_call (codeAny_mono (F.made Xc pins s1 σ H1 us vs M B rfl rfl rfl rfl rfl hr hbt I1 r hsp b0) fun rr s2 hmade => ?_)
  cases rr with
  | error z => exact hmade.elim
  | ok fl =>
    cases fl with
    | next => exact hmade.elim
    | brk => exact hmade.elim
    | cont => exact hmade.elim
    | ret u =>
      obtain ⟨G, hG, eX, ep, eB, eC, eM, a, g, gs, ex, go, eu, I2, hgo, hex, hgp, hz, hgs, hbare, ready⟩ := hmade
      subst eX ep eB eM eu
      have hgen2 := gobj_at hgo (I2.pin (a, go) (List.mem_append_right _ (List.mem_append_right _ hex))).1
      have hM : Md G = model G.Xc.prog G.Xc.w := by
        show model G.X.prog G.X.w = _
        rw [hG.lk.prog, hG.lk.w]
      refine wpAny_pyIter_gen hgen2 ?_
      refine codeAny_forLoop_any (fun n s' => ∃ i ex gs σ Hl H', n = G.M - i ∧ i ≤ G.M ∧ Inv G.Xc (G.pins ++ ex) σ H' s' ∧ G.B i σ H' ∧ Wk G.C Hl H' ∧ (i = 0 → H' = Hl) ∧ (a, go) ∈ ex ∧ G.n0 ≤ s'.heap.objs.size ∧ s'.gens[g]? = some gs ∧ gs.bare = true ∧ Ready G i ex Hl gs) ?_ G.M
        ⟨0, ex, gs, σ, H1, H1, rfl, Nat.zero_le _, I2, b0, ⟨fun b o e _ => e, fun _ h => h⟩, fun _ => rfl, hex, hz, hgs, hbare, ready⟩
      rintro n s3 ⟨i, ex3, gs3, σ3, Hl, H3, en, hi, I3, hB3, hwk3, hz0, hex3, hzz, hgs3, hbare3, ready3⟩
      have hgen3 := gobj_at hgo (I3.pin (a, go) (List.mem_append_right _ (List.mem_append_right _ hex3))).1
      have hgl : g < s3.gens.size := (Array.getElem?_eq_some_iff.mp hgs3).1
      have I3r : Inv G.Xc (G.pins ++ ex3) σ3 H3 (s3.setGen g .running) := Inv.gens I3 (fun _ _ e => e) (allBare_setGen I3.bare rfl)
      have goes := ready3 (s3.setGen g .running) σ3 H3 I3r hzz hB3 hwk3 hz0
      refine wpAny_passesOwn hp (wpAny_gsz (n := g + 1) hgl (next_genG (F := F7 G) (Er := fun _ _ => False) (I3.ok.hd hcalm) I3.nolimit hr.depth hgen3 hgs3 (by rw [← hM]; exact goes) (fun v s4 gs4 hb4 hy => ?_) (fun s4 hf h4 hk4 => ?_) fun _ _ q => q.elim))
      · -- an item
        intro hsz4
        obtain ⟨m, hm1⟩ : ∃ m, G.M + 1 - i = m + 1 := ⟨G.M - i, by omega⟩
        rw [hm1] at hy
        obtain ⟨i', σ4, Hw, H4, x, ex4, e4, hlt, hB4, hgd4, rv4, I4, hgp4, hz4, kap4⟩ := hy
        have ei : i' = i := by
          have e4' : m + 1 - 1 + 1 + i' = G.M + 1 := e4
          omega
        subst ei
        have I4' : Inv G.Xc (G.pins ++ ex4) σ4 H4 (s4.setGen g gs4) := Inv.gens I4 (fun _ _ e => e) (allBare_setGen I4.bare hb4)
        have p4 := (I4'.pin (a, go) (List.mem_append_right _ (List.mem_append_right _ (hgp4 _ hgp)))).1
        have hgl4 : g < s4.gens.size := by
          have q : (s4.setGen g gs4).gens.size = s4.gens.size := setGen_size _ _ _
          have q2 : g + 1 ≤ (s4.setGen g gs4).gens.size := hsz4
          omega
        obtain ⟨ho1, ⟨nmv, qnv, ho2⟩, ho3⟩ := id hgo
        refine go_of (s := s4.setGen g gs4) (n := "generator") p4 ho1 ho2 (by decide) ?_
        have hgd4' : Gd (fun b => H1 b ≠ none) Hw H4 := by rw [← eC]; exact hgd4
        refine wpAny_passesOwn hp (thn (hq.run _ (s4.setGen g gs4) σ4 H4 x v _ I4' rv4 (turn i' x σ4 Hw H4 hlt hB4 hgd4')) fun _ s5 h5 => wpAny_passesOwn hp (thn h5 fun fl s6 h6 => ?_))
        obtain ⟨hfl, hgens6, σ6, H6, I6, hB6, hwk6⟩ := h6
        have hwk6' : Wk G.C H4 H6 := by rw [eC]; exact hwk6
        have I6a : G.n0 ≤ s6.heap.objs.size := by
          have q := (I6.pin (a, go) (List.mem_append_right _ (List.mem_append_right _ (hgp4 _ hgp)))).1
          exact Nat.le_trans (hG.gp _ hgp).2.1 (Nat.le_of_lt (Heap.lt_size q))
        have next : ∃ m', m' < n ∧ ∃ i ex gs σ Hl H', m' = G.M - i ∧ i ≤ G.M ∧ Inv G.Xc (G.pins ++ ex) σ H' s6 ∧ G.B i σ H' ∧ Wk G.C Hl H' ∧ (i = 0 → H' = Hl) ∧ (a, go) ∈ ex ∧ G.n0 ≤ s6.heap.objs.size ∧ s6.gens[g]? = some gs ∧ gs.bare = true ∧ Ready G i ex Hl gs := by
          refine ⟨G.M - (i' + 1), by omega, i' + 1, ex4, gs4, σ6, H4, H6, rfl, hlt, I6, hB6, hwk6', fun z => by omega, hgp4 _ hgp, I6a, by rw [hgens6]; exact setGen_at hgl4, hb4, ?_⟩
          intro s7 σ7 H7 I7 hz7 hB7 hwk7 _
          have q := kap4 s7 σ7 H7 I7 hz7 hB7 hwk7
          have em : G.M + 1 - (i' + 1) = m := by omega
          rw [em]
          exact hM ▸ q
        rcases hfl with rfl | rfl
        · exact next
        · exact next
      · -- the end
        intro _
        obtain ⟨e1, σ4, Hw, H4, hB4, hgd4, I4⟩ := hf
        have I4a : Inv G.Xc G.pins σ4 H4 { s4 with heap := h4, gens := (s4.setGen g .finished).gens } := Inv.gens I4 hk4 (allBare_setGen I4.bare rfl)
        have I4' : Inv G.Xc G.pins σ4 H4 { s4.setGen g .finished with heap := h4 } := I4a
        exact wpAny_execs_nil ⟨σ4, H4, I4', fin σ4 Hw H4 hB4 (by rw [← eC]; exact hgd4)⟩
end K37
end
section
set_option Elab.async false
set_option linter.all false
set_option maxRecDepth 100000
set_option maxHeartbeats 2000000
/-! rules that the bundles lack: index of a tuple of data, a dict display of one tuple key -/
namespace K37
open PySem PySem.Spec PyProof.Rows L2

section
variable {X : Cx}
/-- t.index(x): the first place of an equal one -/
def rIndexU (K : PySem.W.Frag) : V → List V → Hp → VK → Prop := fun x xs H Q => ∃ (a : Addr) (y : V) (d : PyData) (ds : List PyData) (j : Nat) (z : PyData), x = V.ref a ∧ xs = [y] ∧ Dp K H (V.ref a) (.tuple ds) ∧ Dp K H y d ∧
  SeqAt.shaped (.tuple ds) = true ∧ SeqAt.shaped d = true ∧ ds[j]? = some z ∧ PyData.eqv z d = true ∧ (∀ (m : Nat) (z' : PyData), m < j → ds[m]? = some z' → PyData.eqv z' d = false) ∧ Q (.int (j : Nat)) H
theorem mt_tup_indexU (hu : X.A.units + 65 < cLine) : MtR X "tuple.index" (rIndexU X.K) := by
  intro pins s σ H x xs v us Q I rx rxs h
  obtain ⟨a, y, d, ds, j, z, rfl, rfl, hl, hy, sl, sd, hz, hzj, hno, q⟩ := h
  cases rx
  obtain ⟨uy, rfl, ry⟩ := vals1 rxs
  obtain ⟨bs, r1⟩ := Dp.reads I d y uy hy ry
  have lay : PyData.canLayAll0 ds = true := by
    have q := SeqAt.canLay_of_shaped sl
    simpa [PyData.canLay0] using q
  have hroom : X.A.units + 1 + min (PyData.depthAll ds) d.depth < cLine := room_in_shaped sd hu
  cases hl with
  | tup hs ha =>
    obtain ⟨its, rv, ⟨⟨cls, dd, data, sls⟩, ho, hc, n, hdt⟩, hlen⟩ := I.tuple hs
    simp only at hc hdt
    subst hc hdt
    obtain ⟨as, h4⟩ := Dp.readsAll I ds _ its ha rv
    have hn : its.length = ds.length := SeqAt.ReadsAll.length ds its as h4
    have hmap : its.map (SeqAt.readOf s.heap) = ds := SeqAt.readsAll_map ds its as lay h4
    obtain ⟨hjd, _⟩ := List.getElem?_eq_some_iff.mp hz
    have hjl : j < its.length := by omega
    have look : ∀ (m : Nat) (hm : m < its.toArray.size) (z' : PyData), ds[m]? = some z' → SeqAt.readOf s.heap its.toArray[m] = z' := fun m hm z' hz' => by
      have hml : m < its.length := by simpa using hm
      rw [← hmap, List.getElem?_map, List.getElem?_eq_getElem hml] at hz'
      simpa using (Option.some.inj hz' : SeqAt.readOf s.heap its[m] = z')
    refine call_meets PySem.F.slot_tuple_index ⟨_, ho, rfl⟩ PySem.F.entry_tuple_index (PySem.F.args_tuple_index_2 _ _)
      (TI.tuple_indexAt a its.toArray n dd sls uy (fun u => PyData.eqv (SeqAt.readOf s.heap u) d) j (by simpa using hjl) ?_ ?_)
      ⟨ho, SeqAt.items_eqAt (vs := its.toArray) (show ReadsAll s.heap its.toArray.toList ds as from h4) r1 lay (SeqAt.canLay_of_shaped sd) hroom, .int (j : Nat), H, I.tok _, ⟨_, rfl⟩, q⟩
    · show PyData.eqv (SeqAt.readOf s.heap its.toArray[j]) d = true
      rw [look j _ z hz]
      exact hzj
    · intro m hm hmj
      show PyData.eqv (SeqAt.readOf s.heap its.toArray[m]) d = false
      have hmd : m < ds.length := by omega
      rw [look m hm _ (List.getElem?_eq_getElem hmd)]
      exact hno m _ hmj (List.getElem?_eq_getElem hmd)

/-- {e: v}, e a tuple of ints and texts; the new dict stands empty meanwhile -/
def tDisp1 (tk tv : TE) : TE := fun σ H Q => ∀ p, H p = none → tk σ (upd H p (.dT [])) fun x H1 => tv σ H1 fun y H2 => ∃ (b : Addr) (k : List Key), x = .ref b ∧ H2 b = some (.tup (k.map kV)) ∧ H2 p = some (.dT []) ∧ Q (.ref p) (upd H2 p (.dT [(k, y)]))
theorem pe_disp1 {k v : Expr} {pos : Pos} {tk tv : TE} (hu : X.A.units < cLine) (hk : PE X k tk) (hv : PE X v tv) : PE X (.Dict [some k] [v] pos) (tDisp1 tk tv) := by
  refine ⟨fun pins s σ H Q I q => ?_⟩
  have hn := I.hok.fresh (Nat.le_refl s.heap.objs.size)
  have I1 := I.laid (a := s.heap.objs.size) (o := .dT []) (h' := s.heap.push { cls := .type "dict", data := .dict #[] }) (t' := s.toks) (fun _ _ q => Heap.get?_push_of_some _ q) (Nat.le_refl _) (dt_empty s.heap I.big)
  have shape : (evalEachOpt [some k] X.env).zip ((evalEach [v] X.env).map fun v => do let x ← v; standAt pos; pure x) = [((eval k X.env), (do let x ← eval v X.env; standAt pos; pure x))].map fun p => (some p.1, p.2) := rfl
  rw [arm_eval_Dict, shape, dictDisplay_pairs _ (by simp) (by simp)]
  refine wpAny_bind (wpAny_standAt (wpAny_bind ?_))
  unfold subDict
  refine wpAny_bind (wpAny_alloc (wpAny_bind (wpAny_holding ?_)))
  rw [if_pos (by simp)]
  refine wpAny_bind (evalPairs_cons (thn (hk.run pins _ σ _ _ I1 (q _ hn)) fun u s2 hx => ?_))
  obtain ⟨x, H2, I2, rx, q2⟩ := hx
  refine wpAny_bind (thn (hv.run pins _ σ _ _ I2 q2) fun u2 s3 hy => wpAny_bind (wpAny_standAt (wpAny_pure ?_)))
  obtain ⟨y, H3, I3, ry, b, ks, rfl, eb, ed, q3⟩ := hy
  refine evalPairs_nil ?_
  cases rx
  obtain ⟨_, hd, xs, rel, dd⟩ := dt_of I3.hok ed
  cases rel
  refine wpAny_holding ?_
  rw [List.forIn_cons]
  refine wpAny_bind (wpAny_bind (wpAny_bind (wpAny_dictSet_heap (hsz := Nat.zero_le _) hu (key_of I3.hok eb) dd fun h' dd' hs => wpAny_pure ?_)))
  show wpAny (model X.prog X.w) X.A (forIn [] _ _) _ _ _
  rw [List.forIn_nil]
  obtain ⟨o, es, ep, ho, h2, h3, h4, _, h5⟩ := dd'
  refine wpAny_pure (wpAny_pure (wpAny_pure (wpAny_pure ⟨.ref s.heap.objs.size, upd H3 s.heap.objs.size (.dT [(ks, y)]), d_write I3 (by rw [ed]; exact True.intro) hs ⟨o, ho⟩ ⟨by show 1 ≤ sizeLine; decide, hd, _, .cons ⟨rfl, ?_, ry⟩ .nil, o, es, ep, ho, h2, h3, h4, h5⟩, rfl, q3⟩)))
  rw [upd_ne (ne_of eb ed (fun z => nomatch z))]
  exact eb
end
end K37
end
section
set_option Elab.async false
set_option linter.all false
set_option maxRecDepth 100000
set_option maxHeartbeats 2000000
/-! list(enumerate(t)), t a tuple -/
namespace K37E
open PySem PySem.W PySem.Calls PyProof.Rows PySem.Spec

theorem enum_no_len : typeLookup (.type "enumerate") "__len__" = pure none := am_miss_of_fast (by decide +kernel)
theorem enum_no_hint : typeLookup (.type "enumerate") "__length_hint__" = pure none := am_miss_of_fast (by decide +kernel)

set_option maxHeartbeats 4000000 in
theorem meets_enum1 {v : Value} {o : Obj} {Hh : Heap → Prop} (B : Begins v o Hh) :
    Meets (Builtin.«enumerate.__new__» ⟨[.type "enumerate", v], []⟩) (fun _ R s => Hh s.heap ∧
      R (.ok (.ret (.ref (s.heap.push o).objs.size))) { s with heap := (s.heap.push o).push { cls := .type "enumerate", data := .fields #[.none, .bool false, .ref s.heap.objs.size, rawInt 0, .none, .none] } }) :=
  .of_wp fun prog w A R s h => by
    obtain ⟨hp, gn, dr, tk, os⟩ := s
    obtain ⟨h1, h⟩ := h
    have hsub := sub_enumerate
    have qi : ∀ {A' : Around} {E : Value → Shared → Prop} {Q : Value → Shared → Prop}, Q (.ref hp.objs.size) ⟨hp.push o, gn, dr, tk, os⟩ → wpAny (model prog w) A' (pyIter v) Q E ⟨hp, gn, dr, tk, os⟩ :=
      fun q => B.iter prog w _ _ ⟨hp, gn, dr, tk, os⟩ _ h1 q
    wp_walk using qi
    refine wpAny_stack_any fun st => wpAny_pure ?_
    split
    · rename_i c _ _ _ _ _
      cases (c == Value.type "enumerate") <;> (wp_walk using qi; exact ⟨_, rfl, h⟩)
    · wp_walk using qi
      exact ⟨_, rfl, h⟩
section
variable {prog : Program} {w : World} {A : Around} {E : Value → Shared → Prop} {s : Shared}
theorem enum_begins1 {v : Value} {o : Obj} {Hh : Heap → Prop} {Q : Value → Shared → Prop} (B : Begins v o Hh) (h1 : Hh s.heap)
    (h : ∀ h', IsEnum h' (s.heap.objs.size + 1) s.heap.objs.size 0 .none → h'.get? s.heap.objs.size = some o → h'.objs.size = s.heap.objs.size + 2 → (∀ b o, s.heap.get? b = some o → h'.get? b = some o) → Q (.ref (s.heap.objs.size + 1)) { s with heap := h' }) :
    wpAny (model prog w) A (call (.type "enumerate") [v]) Q E s := by
  refine callType_new PySem.F.called_enumerate (by decide) (PySem.F.typeCall_enumerate_1 _) (PySem.F.newCall_enumerate_1 _) (fun obj => PySem.F.args_object_init_2 obj _) PySem.F.entry_enumerate_new (meets_enum1 B) ⟨h1, ?_⟩
  have hz : (s.heap.push o).objs.size = s.heap.objs.size + 1 := Heap.size_push ..
  have he : IsEnum ((s.heap.push o).push { cls := .type "enumerate", data := .fields #[.none, .bool false, .ref s.heap.objs.size, rawInt 0, .none, .none] }) (s.heap.objs.size + 1) s.heap.objs.size 0 .none := by
    have q := Heap.get?_push_size (s.heap.push o) (o := { cls := .type "enumerate", data := .fields #[.none, .bool false, .ref s.heap.objs.size, rawInt 0, .none, .none] }) rfl
    rw [hz] at q
    exact q
  show _ ∧ _
  rw [hz]
  exact ⟨⟨_, he, rfl⟩, h _ he (Heap.get?_push_of_some _ (Heap.get?_push_size _ B.free)) (by rw [Heap.size_push, hz]) fun b o x => Heap.get?_push_of_some _ (Heap.get?_push_of_some _ x)⟩

/-- next, while the first tuple that was given out is held -/
theorem enum_held {e it T : Addr} {fp : List Addr} {n i : Nat} {P : Nat → Value → Prop} {St : Nat → Heap → Prop} {old : Value} {f : Bool} {oT : Obj} {Q : Value → Shared → Prop} (D : Draws prog w A it fp n P St)
    (he : IsEnumHeld s.heap e it i old T f) (hT : s.heap.get? T = some oT) (hTe : T ≠ e) (hTi : T ≠ it) (hst : St i s.heap) (hlt : i < n) (hne : e ≠ it) (hef : e ∉ fp)
    (hQ : ∀ x h' tk, P i x → IsEnumHeld h' e it ((i : Int) + 1) old T true → St (i + 1) h' → h'.get? s.heap.objs.size = some { cls := .type "tuple", data := .seq #[.int i tk, x] } → h'.objs.size = s.heap.objs.size + 1 →
      (∀ b o, b ≠ e → b ≠ it → s.heap.get? b = some o → h'.get? b = some o) → Q (.ref s.heap.objs.size) { s with heap := h', toks := tk + 1 }) :
    wpAny (model prog w) A (Builtin.«enumerate.__next__» ⟨[.ref e], []⟩) (fun fin s' => ∃ v, fin = .done (.ret v) ∧ Q v s') E s := by
  obtain ⟨hp, gn, dr, tk0, os⟩ := s
  show wpAny _ _ (field (.ref e) 2 >>= _) _ _ _
  refine wpAny_bind (wpAny_field he rfl (x := Value.ref it) rfl (wpAny_bind (D.item i _ _ _ hlt hst fun x ha tk hPx sta sa => ?_)))
  replace sa : Heap.SameBut it hp ha := sa
  have ea : IsEnumHeld ha e it i old T f := (sa.2 e hne).trans he
  show wpAny _ _ (field (.ref e) 3 >>= _) _ _ ⟨ha, gn, dr, tk, os⟩
  refine wpAny_bind (wpAny_field ea rfl (x := rawInt i) rfl ?_)
  show wpAny _ _ (field (.ref e) 4 >>= _) _ _ ⟨ha, gn, dr, tk, os⟩
  refine wpAny_bind (wpAny_field ea rfl (x := Value.none) rfl ?_)
  show wpAny _ _ (mkInt i >>= _) _ _ ⟨ha, gn, dr, tk, os⟩
  refine wpAny_bind (wpAny_mkInt ?_)
  show wpAny _ _ (setField (.ref e) 3 (rawInt ((i : Int) + 1)) >>= _) _ _ ⟨ha, gn, dr, tk + 1, os⟩
  refine wpAny_bind (wpAny_setField_rec ea (by simp) fun hb eb sb => ?_)
  replace sb : Heap.SameBut e ha hb := sb
  replace eb : IsEnumHeld hb e it ((i : Int) + 1) old T f := eb
  show wpAny _ _ (setField (.ref e) 4 .none >>= _) _ _ ⟨hb, gn, dr, tk + 1, os⟩
  refine wpAny_bind (wpAny_setField_rec eb (by simp) fun hc ec sc => ?_)
  replace sc : Heap.SameBut e hb hc := sc
  replace ec : IsEnumHeld hc e it ((i : Int) + 1) old T f := ec
  show wpAny _ _ (newTuple [.int i tk, x] >>= _) _ _ ⟨hc, gn, dr, tk + 1, os⟩
  refine wpAny_bind (wpAny_newTuple ?_)
  have zc : hc.objs.size = hp.objs.size := by rw [sc.1, sb.1, sa.1]
  have kc : ∀ b o, b ≠ e → b ≠ it → hp.get? b = some o → hc.get? b = some o := fun b o n1 n2 q => sc.extBut b o n1 (sb.extBut b o n1 (sa.extBut b o n2 q))
  have stc : St (i + 1) hc := D.frame _ _ _ sta fun b hbm o y => by
    have hbe : b ≠ e := fun q => hef (q ▸ hbm)
    exact sc.extBut b o hbe (sb.extBut b o hbe y)
  have ed : IsEnumHeld (hc.push { cls := .type "tuple", data := .seq #[.int i tk, x] }) e it ((i : Int) + 1) old T f := Heap.get?_push_of_some _ ec
  have td : (hc.push { cls := .type "tuple", data := .seq #[.int i tk, x] }).get? hp.objs.size = some { cls := .type "tuple", data := .seq #[.int i tk, x] } := by
    rw [← zc]
    exact Heap.get?_push_size _ rfl
  have Td : (hc.push { cls := .type "tuple", data := .seq #[.int i tk, x] }).get? T = some oT := Heap.get?_push_of_some _ (kc T oT hTe hTi hT)
  have nz : hp.objs.size ≠ e := Nat.ne_of_gt (Heap.lt_size he)
  show wpAny _ _ (Builtin.SmallTypes.ownedTupleIsFree (.ref e) >>= _) _ _ ⟨hc.push { cls := .type "tuple", data := .seq #[.int i tk, x] }, gn, dr, tk + 1, os⟩
  rw [zc]
  refine wpAny_bind (wpAny_tupleHeld_enum (s := ⟨hc.push { cls := .type "tuple", data := .seq #[.int i tk, x] }, gn, dr, tk + 1, os⟩) ed Td fun hd eh sd => ?_)
  replace sd : Heap.SameBut e (hc.push { cls := .type "tuple", data := .seq #[.int i tk, x] }) hd := sd
  simp only [Bool.false_eq_true, if_false]
  refine wpAny_pure ⟨_, rfl, hQ x hd tk hPx eh (D.frame _ _ _ stc fun b hbm o y => sd.extBut b o (fun q => hef (q ▸ hbm)) (Heap.get?_push_of_some _ y)) (sd.extBut _ _ nz td) ?_ fun b o n1 n2 q => sd.extBut b o n1 (Heap.get?_push_of_some _ (kc b o n1 n2 q))⟩
  show hd.objs.size = hp.objs.size + 1
  rw [sd.1, Heap.size_push, zc]
theorem enum_next_held {e it T : Addr} {fp : List Addr} {n i : Nat} {P : Nat → Value → Prop} {St : Nat → Heap → Prop} {old : Value} {f : Bool} {oT : Obj} {Q : Option Value → Shared → Prop} (D : Draws prog w A.in1 it fp n P St)
    (he : IsEnumHeld s.heap e it i old T f) (hT : s.heap.get? T = some oT) (hTe : T ≠ e) (hTi : T ≠ it) (hst : St i s.heap) (hlt : i < n) (hne : e ≠ it) (hef : e ∉ fp)
    (hQ : ∀ x h' tk, P i x → IsEnumHeld h' e it ((i : Int) + 1) old T true → St (i + 1) h' → h'.get? s.heap.objs.size = some { cls := .type "tuple", data := .seq #[.int i tk, x] } → h'.objs.size = s.heap.objs.size + 1 →
      (∀ b o, b ≠ e → b ≠ it → s.heap.get? b = some o → h'.get? b = some o) → Q (some (.ref s.heap.objs.size)) { s with heap := h', toks := tk + 1 }) :
    wpAny (model prog w) A (pyNext (.ref e)) Q E s := by
  have hTy : s.TypeIs (.ref e) "enumerate" := ⟨_, he, rfl⟩
  unfold pyNext
  exact wpAny_bind (wpAny_attempt (wpAny_callSpecial?_slot (name := Str.ofString "__next__") hTy PySem.F.slot_enumerate_next
    (wpAny_call_entry PySem.F.slot_enumerate_next hTy PySem.F.entry_enumerate_next (enum_held D he hT hTe hTi hst hlt hne hef fun x h' tk a1 a2 a3 a4 a5 a6 => wpAny_pure (hQ x h' tk a1 a2 a3 a4 a5 a6)) (PySem.F.args_enumerate_next_1 _))))
theorem enum_end_held {e it T : Addr} {fp : List Addr} {n : Nat} {P : Nat → Value → Prop} {St : Nat → Heap → Prop} {i : Int} {old : Value} {f : Bool} {Q : Option Value → Shared → Prop} (D : Draws prog w A.in1 it fp n P St)
    (he : IsEnumHeld s.heap e it i old T f) (hst : St n s.heap) (hQ : ∀ h', Heap.ExtBut it s.heap h' → Q none { s with heap := h' }) : wpAny (model prog w) A (pyNext (.ref e)) Q E s := by
  have hTy : s.TypeIs (.ref e) "enumerate" := ⟨_, he, rfl⟩
  unfold pyNext
  refine wpAny_bind (wpAny_attempt (wpAny_callSpecial?_slot (name := Str.ofString "__next__") hTy PySem.F.slot_enumerate_next (wpAny_call_entry PySem.F.slot_enumerate_next hTy PySem.F.entry_enumerate_next ?_ (PySem.F.args_enumerate_next_1 _))))
  show wpAny _ _ (field (.ref e) 2 >>= _) _ _ _
  refine wpAny_bind (wpAny_field he rfl (x := Value.ref it) rfl (wpAny_bind (D.done _ _ _ hst fun h' x hx hc => ?_)))
  obtain ⟨o, ho, hcl⟩ := hc
  exact wpAny_bind (wpAny_isInstance (T := "StopIteration") (b := true) ⟨o, ho, hcl⟩ isSubtype_stop (wpAny_pure (hQ _ hx)))
end

/-- the tuples that stand: as[j] is (j, items[j]) -/
def TupsAt (items : Array Value) (h : Heap) (as : List Addr) : Prop := ∀ (j : Nat) (a : Addr), as[j]? = some a → ∃ tk x, items[j]? = some x ∧ h.get? a = some { cls := .type "tuple", data := .seq #[.int j tk, x] }
def EnSt (h : Heap) (e it : Addr) (i : Nat) (as : List Addr) : Prop := (i = 0 ∧ IsEnum h e it 0 .none) ∨ ∃ old T f oT, IsEnumHeld h e it i old T f ∧ h.get? T = some oT ∧ T ∈ as
section
variable {prog : Program} {w : World} {A : Around} {s : Shared} {R : Result → Shared → Prop} {items : Array Value}
theorem en_loop {S e it t : Addr} (hh : A.handled = none) (nSe : S ≠ e) (nSi : S ≠ it) (hei : e ≠ it) (hti : t ≠ it) (hte : t ≠ e) (htS : t ≠ S) (hn : items.size ≤ sizeLine) (res : Value) {h1 : Heap}
    (hR : ∀ h' tk acc c as, (∀ b o, b ≠ S → b ≠ e → b ≠ it → h1.get? b = some o → h'.get? b = some o) → h'.get? S = some { cls := .type "list", dict := none, data := .seq acc c, slots := #[] } → as.length = items.size → TupsAt items h' as →
      as.Pairwise (· < ·) → (∀ a ∈ as, S < a) → acc.toList = as.map Value.ref → R (.ok (.ret res)) { s with heap := h', toks := tk }) :
    ∀ (k i : Nat) (h : Heap) (tk c : Nat) (acc : Array Value) (as : List Addr), items.size - i = k → i ≤ items.size → EnSt h e it i as → h.IsTupleIter it t i → h.IsTuple t items → (∀ b o, b ≠ S → b ≠ e → b ≠ it → h1.get? b = some o → h.get? b = some o) →
      h.get? S = some { cls := .type "list", dict := none, data := .seq acc c, slots := #[] } → acc.toList = as.map Value.ref → as.length = i → TupsAt items h as → as.Pairwise (· < ·) → (∀ a ∈ as, e < a ∧ it < a ∧ a < h.objs.size ∧ S < a) →
      codeAny (model prog w) A (.builtin "list.extend.loop" ⟨[.ref S, .ref e, res], []⟩) R { s with heap := h, toks := tk } := by
  have D : ∀ A' : Around, A'.handled = none → Draws prog w A' it [it, t] items.size (fun i v => items[i]? = some v) (fun i h => h.IsTupleIter it t i ∧ h.IsTuple t items) := fun A' hA => Draws.tuple hA it t hti items
  have hef : e ∉ [it, t] := fun z => by
    rcases List.mem_cons.mp z with q | q
    · exact hei q
    · exact hte (List.mem_singleton.mp q).symm
  intro k
  induction k with
  | zero =>
    intro i h tk c acc as hk hi hst hit ht hkeep hS hacc hal hT hpw hab
    have hin : i = items.size := by omega
    refine codeAny_builtin PySem.F.entry_extend_loop ?_
    rw [Around.under_plainId PySem.F.plain_extend_loop _]
    show wpAny _ A.in1 (pyNext (.ref e) >>= _) _ _ _
    have fin : ∀ h', Heap.ExtBut it h h' → R (.ok (.ret res)) { s with heap := h', toks := tk } := fun h' he => by
      refine hR h' tk acc c as (fun b o n1 n2 n3 q => he b o n3 (hkeep b o n1 n2 n3 q)) (he S _ nSi hS) (by omega) (fun j a hj => ?_) hpw (fun a ha => (hab a ha).2.2.2) hacc
      obtain ⟨tk', x, e1, e2⟩ := hT j a hj
      exact ⟨tk', x, e1, he a _ (Nat.ne_of_gt (hab a (List.mem_of_getElem? hj)).2.1) e2⟩
    rcases hst with ⟨e0, he⟩ | ⟨old, T, f, oT, he, hTT, hTa⟩
    · refine wpAny_bind (wpAny_pyNext_enum_endD (s := { s with heap := h, toks := tk }) (A := A.in1) (D A.in1.in1 hh) he ⟨by rw [← hin]; exact hit, ht⟩ fun h' hx => wpAny_pure (fin h' hx))
    · refine wpAny_bind (enum_end_held (s := { s with heap := h, toks := tk }) (A := A.in1) (D A.in1.in1 hh) he ⟨by rw [← hin]; exact hit, ht⟩ fun h' hx => wpAny_pure (fin h' hx))
  | succ k ih =>
    intro i h tk c acc as hk hi hst hit ht hkeep hS hacc hal hT hpw hab
    have hlt : i < items.size := by omega
    have hsz : acc.size = i := by rw [← Array.length_toList, hacc, List.length_map, hal]
    have hel : e < h.objs.size := by
      rcases hst with ⟨_, he⟩ | ⟨_, _, _, _, he, _⟩ <;> exact Heap.lt_size he
    have hil : it < h.objs.size := let ⟨_, q, _⟩ := hit; Heap.lt_size q
    refine codeAny_builtin PySem.F.entry_extend_loop ?_
    rw [Around.under_plainId PySem.F.plain_extend_loop _]
    show wpAny _ A.in1 (pyNext (.ref e) >>= _) _ _ _
    have step : ∀ (x : Value) (h' : Heap) (tk' : Nat), items[i]? = some x → (∃ old T f oT, IsEnumHeld h' e it ((i : Int) + 1) old T f ∧ h'.get? T = some oT ∧ T ∈ as ++ [h.objs.size]) → h'.IsTupleIter it t (i + 1) → h'.IsTuple t items →
        h'.get? h.objs.size = some { cls := .type "tuple", data := .seq #[.int i tk', x] } → h'.objs.size = h.objs.size + 1 → (∀ b o, b ≠ e → b ≠ it → h.get? b = some o → h'.get? b = some o) →
        wpAny (model prog w) A.in1 (updateSeq S (·.push (Value.ref h.objs.size)) >>= fun _ => again (.builtin "list.extend.loop" ⟨[.ref S, .ref e, res], []⟩)) (fun fin s' => match fin with | .done f => R (.ok f) s' | .again c' => c'.quiet = true ∧ codeAny (model prog w) A c' R s') (fun e s' => R (.error e) s') { s with heap := h', toks := tk' + 1 } := by
      intro x h' tk' hx hst' hit' ht' hnew hz hkp
      have hS' := hkp S _ nSe nSi hS
      have up : ∀ b o, b ≠ S → h'.get? b = some o → (h'.update S (Obj.mapSeq (·.push (Value.ref h.objs.size)))).get? b = some o := fun b o hb q => (Heap.get?_update_other _ _ (Ne.symm hb)).trans q
      have hSl : S < h.objs.size := Heap.lt_size hS
      refine wpAny_bind (wpAny_updateSeq hS' rfl (wpAny_pure ⟨plainId_quiet PySem.F.plain_extend_loop _, ?_⟩) (by rw [hsz]; omega) (by show (acc.push (Value.ref h.objs.size)).size ≤ sizeLine + 1; rw [Array.size_push, hsz]; omega))
      have hall : ∀ a ∈ as ++ [h.objs.size], e < a ∧ it < a ∧ a < (h'.update S (Obj.mapSeq (·.push (Value.ref h.objs.size)))).objs.size ∧ S < a := fun a ha => by
        have zz : (h'.update S (Obj.mapSeq (·.push (Value.ref h.objs.size)))).objs.size = h.objs.size + 1 := by rw [Heap.size_after_update, hz]
        rw [zz]
        rcases List.mem_append.mp ha with q | q
        · obtain ⟨a1, a2, a3, a4⟩ := hab a q
          exact ⟨a1, a2, Nat.lt_succ_of_lt a3, a4⟩
        · rw [List.mem_singleton.mp q]
          exact ⟨hel, hil, Nat.lt_succ_self _, hSl⟩
      refine ih (i + 1) _ (tk' + 1) _ (acc.push (Value.ref h.objs.size)) (as ++ [h.objs.size]) (by omega) hlt (.inr ?_) (hit'.at fun o q => up it o (Ne.symm nSi) q) (ht'.at fun o q => up t o htS q) (fun b o n1 n2 n3 q => up b o n1 (hkp b o n2 n3 (hkeep b o n1 n2 n3 q)))
        (Heap.get?_update_self _ hS' rfl) (by rw [Array.toList_push, hacc, List.map_append]; rfl) (by rw [List.length_append, hal]; rfl) (fun j a hj => ?_) (List.pairwise_append.mpr ⟨hpw, List.pairwise_singleton _ _, fun a ha b hb => ?_⟩) hall
      · obtain ⟨old, T, f, oT, q1, q2, q3⟩ := hst'
        refine ⟨old, T, f, oT, ?_, up T oT ?_ q2, q3⟩
        · have ec : ((i + 1 : Nat) : Int) = (i : Int) + 1 := by omega
          rw [ec]
          exact up e _ (Ne.symm nSe) q1
        · exact Nat.ne_of_gt (hall T q3).2.2.2
      · rcases Nat.lt_or_ge j as.length with hj' | hj'
        · rw [List.getElem?_append_left hj'] at hj
          obtain ⟨tk2, x2, e1, e2⟩ := hT j a hj
          have ham := List.mem_of_getElem? hj
          obtain ⟨a1, a2, a3, a4⟩ := hab a ham
          exact ⟨tk2, x2, e1, up a _ (Nat.ne_of_gt a4) (hkp a _ (Nat.ne_of_gt a1) (Nat.ne_of_gt a2) e2)⟩
        · rw [List.getElem?_append_right hj'] at hj
          have hj0 : j = i := by
            have : j - as.length < 1 := (List.getElem?_eq_some_iff.mp hj).1
            omega
          subst hj0
          have ea : h.objs.size = a := by
            rw [hal, Nat.sub_self] at hj
            exact Option.some.inj hj
          subst ea
          exact ⟨tk', x, hx, up _ _ (Nat.ne_of_gt hSl) hnew⟩
      · rw [List.mem_singleton.mp hb]
        exact (hab a ha).2.2.1
    rcases hst with ⟨e0, he⟩ | ⟨old, T, f, oT, he, hTT, hTa⟩
    · subst e0
      refine wpAny_bind (wpAny_pyNext_enum_itemD (s := { s with heap := h, toks := tk }) (A := A.in1) (D A.in1.in1 hh) he ⟨hit, ht⟩ hlt hei hef fun x h' tk' hx ho hst' hnew hz hkp => ?_)
      exact step x h' tk' hx ⟨_, _, false, _, ho, hnew, List.mem_append_right _ (List.mem_singleton.mpr rfl)⟩ hst'.1 hst'.2 hnew hz hkp
    · obtain ⟨a1, a2, a3, a4⟩ := hab T hTa
      refine wpAny_bind (enum_next_held (s := { s with heap := h, toks := tk }) (A := A.in1) (D A.in1.in1 hh) he hTT (Nat.ne_of_gt a1) (Nat.ne_of_gt a2) ⟨hit, ht⟩ hlt hei hef fun x h' tk' hx ho hst' hnew hz hkp => ?_)
      exact step x h' tk' hx ⟨_, _, true, _, ho, hkp T oT (Nat.ne_of_gt a1) (Nat.ne_of_gt a2) hTT, List.mem_append_left _ hTa⟩ hst'.1 hst'.2 hnew hz hkp
end
end K37E
end
section
set_option Elab.async false
set_option linter.all false
set_option maxRecDepth 100000
set_option maxHeartbeats 2000000
namespace K37E
open PySem PySem.W PySem.Calls PyProof.Rows PySem.Spec
section
variable {prog : Program} {w : World} {A : Around} {E : Value → Shared → Prop} {s : Shared} {items : Array Value}
theorem enum_hint {e : Addr} (hT : s.TypeIs (.ref e) "enumerate") {Q : Bool → Shared → Prop} (h : Q true s) : wpAny (model prog w) A (Builtin.List.listLengthHint (.ref e)) Q E s := by
  unfold Builtin.List.listLengthHint
  refine wpAny_bind (wpAny_specialOf hT enum_no_len ?_)
  show wpAny _ _ (specialOf (Value.ref e) (Str.ofString "__length_hint__") >>= _) _ _ _
  exact wpAny_bind (wpAny_specialOf hT enum_no_hint (wpAny_pure h))
theorem call_list_enum {e it t : Addr} {Q : Value → Shared → Prop} (hh : A.handled = none) (hei : e ≠ it) (hti : t ≠ it) (hte : t ≠ e) (he : IsEnum s.heap e it 0 .none) (hit : s.heap.IsTupleIter it t 0) (ht : s.heap.IsTuple t items) (hn : items.size ≤ sizeLine)
    (hQ : ∀ h' tk acc c as, (∀ b o, b ≠ e → b ≠ it → s.heap.get? b = some o → h'.get? b = some o) → h'.get? s.heap.objs.size = some { cls := .type "list", dict := none, data := .seq acc c, slots := #[] } → as.length = items.size → TupsAt items h' as →
      as.Pairwise (· < ·) → (∀ a ∈ as, s.heap.objs.size < a) → acc.toList = as.map Value.ref → Q (.ref s.heap.objs.size) { s with heap := h', toks := tk }) :
    wpAny (model prog w) A (call (.type "list") [.ref e]) Q E s := by
  have hel : e < s.heap.objs.size := Heap.lt_size he
  have hil : it < s.heap.objs.size := let ⟨_, q, _⟩ := hit; Heap.lt_size q
  have htl : t < s.heap.objs.size := let ⟨_, q, _⟩ := ht; Heap.lt_size q
  refine callType_codes (Q₁ := fun obj s1 => obj = .ref s.heap.objs.size ∧ s1 = { s with heap := s.heap.push { cls := .type "list", data := .seq #[] } }) PySem.F.called_list (PySem.F.typeCall_list_1 _) PySem.F.entry_list_init (code_list_new _ ⟨rfl, rfl⟩) fun obj s1 hs1 => ?_
  obtain ⟨rfl, rfl⟩ := hs1
  have hS : (s.heap.push { cls := .type "list", data := .seq #[] }).get? s.heap.objs.size = some { cls := .type "list", data := .seq #[] } := Heap.get?_push_size _ rfl
  refine ⟨⟨_, hS, rfl⟩, PySem.F.args_list_init_2 _ _, ?_⟩
  show wpAny _ A.in1.in1 (do let old ← Builtin.List.listItems (.ref s.heap.objs.size); Builtin.List.listUpdate (.ref s.heap.objs.size) (fun _ => #[]); letGo old.toList.reverse; Builtin.List.listExtendWith (.ref s.heap.objs.size) (.ref e) .none) _ _ _
  refine wpAny_bind ?_
  unfold Builtin.List.listItems
  refine wpAny_bind (wpAny_seqItems hS rfl (wpAny_pure ?_))
  show wpAny _ A.in1.in1 (updateSeq s.heap.objs.size (fun _ => #[]) >>= fun _ => letGo (#[] : Array Value).toList.reverse >>= fun _ => Builtin.List.listExtendWith (.ref s.heap.objs.size) (.ref e) .none) _ _ _
  refine wpAny_bind (wpAny_updateSeq hS rfl (wpAny_bind (wpAny_letGo ?_)))
  have hS2 := Heap.get?_update_self (Obj.mapSeq (fun _ => (#[] : Array Value))) hS rfl
  have lt : ∀ b o, s.heap.get? b = some o → b ≠ s.heap.objs.size := fun b o q => Nat.ne_of_lt (Heap.lt_size q)
  have k2 : ∀ b o, s.heap.get? b = some o → ((s.heap.push { cls := .type "list", data := .seq #[] }).update s.heap.objs.size (Obj.mapSeq (fun _ => (#[] : Array Value)))).get? b = some o := fun b o q =>
    (Heap.get?_update_other _ _ (Ne.symm (lt b o q))).trans (Heap.get?_push_of_some _ q)
  have hT2 : ∀ {h : Heap}, (∀ b o, s.heap.get? b = some o → h.get? b = some o) → Shared.TypeIs { s with heap := h } (.ref e) "enumerate" := fun {h} q => ⟨_, q _ _ he, rfl⟩
  unfold Builtin.List.listExtendWith
  refine wpAny_bind (wpAny_typeOf (hT2 k2) ?_)
  have h1 : Builtin.List.listSameRef (.ref s.heap.objs.size) (.ref e) = false := by simp [Builtin.List.listSameRef, Nat.ne_of_gt hel]
  have h2 : (Value.type "enumerate" == Value.type "list") = false := by decide
  have h3 : (Value.type "enumerate" == Value.type "tuple") = false := by decide
  simp only [h1, h2, h3, Bool.or_false, Bool.false_eq_true, if_false]
  refine wpAny_bind (wpAny_pyIter_enum (k2 _ _ he) (wpAny_bind (wpAny_holding (enum_hint (hT2 k2) ?_))))
  show wpAny _ A.in1.in1 (rule "list.extend.makes-room" >>= fun _ => Builtin.List.listTouch (.ref s.heap.objs.size) >>= fun _ => again (.builtin "list.extend.loop" ⟨[.ref s.heap.objs.size, .ref e, .none], []⟩)) _ _ _
  refine wpAny_bind (wpAny_rule (wpAny_bind ?_))
  show wpAny _ A.in1.in1 (updateSeq s.heap.objs.size (·.push .none) >>= fun _ => updateSeq s.heap.objs.size (·.pop)) _ _ _
  refine wpAny_bind (wpAny_updateSeq hS2 rfl ?_)
  have hS3 := Heap.get?_update_self (Obj.mapSeq (·.push Value.none)) hS2 rfl
  refine wpAny_updateSeq (hz := by seq_fits) hS3 rfl ?_
  have hS4 := Heap.get?_update_self (Obj.mapSeq (·.pop)) hS3 rfl
  have k4 : ∀ b o, s.heap.get? b = some o → ((((s.heap.push { cls := .type "list", data := .seq #[] }).update s.heap.objs.size (Obj.mapSeq (fun _ => (#[] : Array Value)))).update s.heap.objs.size (Obj.mapSeq (·.push Value.none))).update s.heap.objs.size (Obj.mapSeq (·.pop))).get? b = some o := fun b o q =>
    (Heap.get?_update_other _ _ (Ne.symm (lt b o q))).trans ((Heap.get?_update_other _ _ (Ne.symm (lt b o q))).trans (k2 b o q))
  refine wpAny_pure ⟨plainId_quiet PySem.F.plain_extend_loop _, ?_⟩
  refine en_loop (s := s) (A := A.in1) (h1 := s.heap) (items := items) (it := it) (t := t) hh (Nat.ne_of_gt hel) (Nat.ne_of_gt hil) hei hti hte (Nat.ne_of_lt htl) hn .none (fun h' tk acc c as q1 q2 q3 q4 q5 q6 q7 => ?_)
    items.size 0 _ s.toks _ #[] [] (Nat.sub_zero _) (Nat.zero_le _) (.inl ⟨rfl, k4 _ _ he⟩) (hit.at fun o q => k4 _ o q) (ht.at fun o q => k4 _ o q) (fun b o _ _ _ q => k4 b o q) hS4 rfl rfl (fun j a hj => by simp at hj) List.Pairwise.nil fun a ha => by simp at ha
  exact ⟨rfl, hQ h' tk acc c as (fun b o n2 n3 q => q1 b o (lt b o q) n2 n3 q) q2 q3 q4 q5 q6 q7⟩
end
end K37E
end
section
set_option Elab.async false
set_option linter.all false
set_option maxRecDepth 100000
set_option maxHeartbeats 2000000
namespace K37E
open PySem PySem.W PySem.Calls PyProof.Rows PySem.Spec L2
/-- the new tuples tracked: ts[j] is (i + j, xs[j]) -/
def layE : Hp → Nat → List Addr → List V → Hp
  | H, i, a :: as, x :: xs => layE (upd H a (.tup [.int i, x])) (i + 1) as xs
  | H, _, _, _ => H
theorem layE_off {b : Addr} : ∀ (as : List Addr) (xs : List V) (H : Hp) (i : Nat), b ∉ as → layE H i as xs b = H b
  | [], _, _, _, _ => rfl
  | _ :: _, [], _, _, _ => rfl
  | a :: as, x :: xs, H, i, h => by
    show layE (upd H a (.tup [.int i, x])) (i + 1) as xs b = H b
    rw [layE_off as xs _ _ (fun z => h (List.mem_cons_of_mem _ z)), upd_ne (fun z => h (by rw [z]; exact List.mem_cons_self))]
theorem layE_at : ∀ (as : List Addr) (xs : List V) (H : Hp) (i : Nat), as.Nodup → ∀ (j : Nat) (a : Addr) (x : V), as[j]? = some a → xs[j]? = some x → layE H i as xs a = some (.tup [.int ((i + j : Nat) : Int), x])
  | [], _, _, _, _, j, a, x, h, _ => by simp at h
  | _ :: _, [], _, _, _, j, a, x, _, h => by simp at h
  | a0 :: as, x0 :: xs, H, i, hn, 0, a, x, h1, h2 => by
    have e1 : a0 = a := Option.some.inj h1
    have e2 : x0 = x := Option.some.inj h2
    subst e1 e2
    show layE (upd H a0 (.tup [.int i, x0])) (i + 1) as xs a0 = _
    rw [layE_off as xs _ _ (List.nodup_cons.mp hn).1, upd_same]
    rfl
  | a0 :: as, x0 :: xs, H, i, hn, j + 1, a, x, h1, h2 => by
    have q := layE_at as xs (upd H a0 (.tup [.int i, x0])) (i + 1) (List.nodup_cons.mp hn).2 j a x h1 h2
    have e : i + 1 + j = i + (j + 1) := by omega
    rw [e] at q
    exact q
def rEnumL (K : PySem.W.Frag) : V → Hp → VK → Prop := fun x H Q => ∃ (a : Addr) (xs : List V), x = .ref a ∧ SqT K H a xs ∧
  ∀ (H' : Hp) (p : Addr) (ts : List Addr), Same H H' → H p = none → (∀ t ∈ ts, H t = none ∧ t ≠ p) → ts.length = xs.length → H' p = some (.lst (ts.map V.ref)) → (∀ (j : Nat) (t : Addr) (v : V), ts[j]? = some t → xs[j]? = some v → H' t = some (.tup [.int (j : Int), v])) → Q (.ref p) H'
def tEnumL (K : PySem.W.Frag) (te : TE) : TE := fun σ H Q => te σ H fun x H1 => rEnumL K x H1 Q
section
variable {X : Cx} {e : Expr} {te : TE} {p p2 pos pos2 : Pos}
theorem refs_vals : ∀ as : List Addr, Vals (as.map V.ref) (as.map Value.ref)
  | [] => .nil
  | _ :: as => .cons rfl (refs_vals as)
theorem pe_listEnum (hc : X.calm = true) (he : PE X e te) (hg : Gl X "list") (hm : X.mg "list" = none) (hg2 : Gl X "enumerate") (hm2 : X.mg "enumerate" = none)
    (hs : starEach [e] X.env = (false, eval e X.env) :: starEach [] X.env := by rfl)
    (hs2 : starEach [.Call (.Name "enumerate" p2) [e] [] pos2] X.env = (false, eval (.Call (.Name "enumerate" p2) [e] [] pos2) X.env) :: starEach [] X.env := by rfl) :
    PE X (.Call (.Name "list" p) [.Call (.Name "enumerate" p2) [e] [] pos2] [] pos) (tEnumL X.K te) := by
  refine ⟨fun pins s σ H Q I hq => ?_⟩
  refine wpAny_Call_Name_kw (ld_blt I hg hm (by decide +kernel : bootBuiltins "list" = some (.type "list")) ?_)
  refine PyProof.Rows.callWith_type1 ?_ hs2 rfl
  rw [hs2]
  show wpAny _ _ (spliced ((false, eval (.Call (.Name "enumerate" p2) [e] [] pos2) X.env) :: backTo pos (starEach [] X.env))) _ _ s
  refine Calls.spliced_cons ?_
  refine wpAny_Call_Name_kw (ld_blt I hg2 hm2 (by decide +kernel : bootBuiltins "enumerate" = some (.type "enumerate")) ?_)
  refine PyProof.Rows.callWith_type1 ?_ hs rfl
  rw [hs]
  show wpAny _ _ (spliced ((false, eval e X.env) :: backTo pos2 (starEach [] X.env))) _ _ s
  refine Calls.spliced_cons (thn (he.run pins s σ H _ I hq) fun u s1 hx => Calls.spliced_nil ?_)
  obtain ⟨x, H1, I1, rx, a, xs, rfl, hsq, q⟩ := hx
  cases rx
  obtain ⟨its, rv, pl, hz⟩ := I1.tuple hsq
  have htl : a < s1.heap.objs.size := let ⟨_, q, _⟩ := pl; Heap.lt_size q
  refine enum_begins1 (begins_tuple a its.toArray) pl fun h2 hE hit hz2 hk2 => Calls.spliced_nil ?_
  have itI : h2.IsTupleIter s1.heap.objs.size a 0 := ⟨_, hit, rfl, rfl⟩
  refine call_list_enum (s := { s1 with heap := h2 }) (items := its.toArray) (it := s1.heap.objs.size) (t := a) (I1.ok.hd hc) (Nat.succ_ne_self _) (Nat.ne_of_lt htl) (Nat.ne_of_lt (Nat.lt_succ_of_lt htl)) hE itI ((show s1.heap.IsTuple a its.toArray from pl).at fun o z => hk2 a o z) (by rw [List.size_toArray, ← rv.length]; exact hz) fun h3 tk acc c as k3 hS hl hT hpw hab hacc => ?_
  have kk : ∀ b o, s1.heap.get? b = some o → h3.get? b = some o := fun b o z => k3 b o (Nat.ne_of_lt (Nat.lt_succ_of_lt (Heap.lt_size z))) (Nat.ne_of_lt (Heap.lt_size z)) (hk2 b o z)
  have hsz : s1.heap.objs.size ≤ h2.objs.size := by rw [hz2]; omega
  have low : ∀ b o, s1.heap.get? b = some o → b ∉ as ∧ b ≠ h2.objs.size := fun b o z =>
    ⟨fun m => absurd (hab b m) (Nat.not_lt.mpr (Nat.le_trans (Nat.le_of_lt (Heap.lt_size z)) hsz)), Nat.ne_of_lt (Nat.lt_of_lt_of_le (Heap.lt_size z) hsz)⟩
  have hSn : h2.objs.size ∉ as := fun z => Nat.lt_irrefl _ (hab _ z)
  have nd : as.Nodup := List.Pairwise.imp (fun {a b} (h : a < b) => Nat.ne_of_lt h) hpw
  have new : ∀ t, h2.objs.size ≤ t → H1 t = none := fun t ht => I1.hok.fresh (Nat.le_trans hsz ht)
  have off : ∀ b, b ∉ as → b ≠ h2.objs.size → layE (upd H1 h2.objs.size (.lst (as.map V.ref))) 0 as xs b = H1 b := fun b n1 n2 => by rw [layE_off as xs _ _ n1, upd_ne n2]
  have kp : Same H1 (layE (upd H1 h2.objs.size (.lst (as.map V.ref))) 0 as xs) := fun b o z => by
    rw [off b (fun m => by rw [new b (Nat.le_of_lt (hab b m))] at z; cases z) (fun m => by rw [m, new _ (Nat.le_refl _)] at z; cases z)]
    exact z
  have eS : layE (upd H1 h2.objs.size (.lst (as.map V.ref))) 0 as xs h2.objs.size = some (.lst (as.map V.ref)) := by rw [layE_off as xs _ _ hSn, upd_same]
  have hlx : as.length = xs.length := by rw [hl, List.size_toArray, rv.length]
  have eT : ∀ (j : Nat) (t : Addr) (v : V), as[j]? = some t → xs[j]? = some v → layE (upd H1 h2.objs.size (.lst (as.map V.ref))) 0 as xs t = some (.tup [.int (j : Int), v]) := fun j t v g1 g2 => by
    have q := layE_at as xs (upd H1 h2.objs.size (.lst (as.map V.ref))) 0 nd j t v g1 g2
    rw [Nat.zero_add] at q
    exact q
  have hok : HOk X.prog X.w (layE (upd H1 h2.objs.size (.lst (as.map V.ref))) 0 as xs) h3 := fun b u z => by
    by_cases hb : b ∈ as
    · obtain ⟨j, hj⟩ := List.mem_iff_getElem?.mp hb
      obtain ⟨tk2, y, e1, e2⟩ := hT j b hj
      have hjx : j < xs.length := by
        rw [← hlx]
        exact (List.getElem?_eq_some_iff.mp hj).1
      rw [eT j b _ hj (List.getElem?_eq_getElem hjx)] at z
      cases z
      obtain ⟨y', f1, f2⟩ := rv.get (i := j) (List.getElem?_eq_getElem hjx)
      have ey : y' = y := by
        rw [List.getElem?_toArray] at e1
        rw [e1] at f1
        exact (Option.some.inj f1).symm
      subst ey
      exact ⟨by show 2 ≤ sizeLine; decide, [.int j tk2, y'], .cons ⟨tk2, rfl⟩ (.cons f2 .nil), _, e2, rfl, _, rfl⟩
    · by_cases hb2 : b = h2.objs.size
      · subst hb2
        rw [eS] at z
        cases z
        refine ⟨by rw [List.length_map, hlx]; exact hz, acc.toList, c, by rw [hacc]; exact refs_vals as, ?_⟩
        rw [Array.toArray_toList]
        exact hS
      · rw [off b hb hb2] at z
        exact (I1.hok b u z).stay (fun d v _ y => kk d v y) (fun d y => kp d _ y) fun d ys y => kp d _ y
  refine ⟨.ref h2.objs.size, _, ?_, rfl, q _ h2.objs.size as kp (new _ (Nat.le_refl _)) (fun t ht => ⟨new t (Nat.le_of_lt (hab t ht)), Nat.ne_of_gt (hab t ht)⟩) hlx eS eT⟩
  refine I1.call' (ch := []) rfl ⟨fun b o z _ _ _ => kk b o z, fun b o z _ _ _ => ⟨o.slots, kk b o z⟩, fun b o z n _ => ?_, fun b o z _ => ⟨o, kk b o z⟩, fun b ys z => kp b _ z, fun b o u z => kp b _ z, fun b qs z => ⟨#[], by rw [kp b _ z]; simp⟩⟩ hok I1.bare fun b z => by simp at z
  obtain ⟨z1, z2⟩ := low b o z
  rw [off b z1 z2]
  exact n
end
end K37E
end
section
set_option linter.all false
set_option maxRecDepth 100000
/-! equivalences as tuples of least elements, their joins, congruences of a table -/
namespace M7

def at' (c : List Nat) (x : Nat) : Nat := c.getD x 0
def mul (t : List (List Nat)) (x y : Nat) : Nat := (t.getD x []).getD y 0
structure Sq (t : List (List Nat)) : Prop where
  pos : 0 < t.length
  le : t.length ≤ 24
  row : ∀ r ∈ t, r.length = t.length ∧ ∀ z ∈ r, z < t.length
def Assoc (t : List (List Nat)) : Prop := ∀ x y z, x < t.length → y < t.length → z < t.length → mul t (mul t x y) z = mul t x (mul t y z)

theorem at_eq {c : List Nat} {x : Nat} (h : x < c.length) : at' c x = c[x] := by
  unfold at'
  rw [List.getD_eq_getElem?_getD, List.getElem?_eq_getElem h]
  rfl
theorem at_some {c : List Nat} {x : Nat} (h : x < c.length) : c[x]? = some (at' c x) := by
  rw [at_eq h, List.getElem?_eq_getElem h]
theorem at_map {c : List Nat} {f : Nat → Nat} {x : Nat} (h : x < c.length) : at' (c.map f) x = f (at' c x) := by
  rw [at_eq (by rw [List.length_map]; exact h), List.getElem_map, at_eq h]
theorem at_range {n x : Nat} (h : x < n) : at' (List.range n) x = x := by
  rw [at_eq (by rw [List.length_range]; exact h), List.getElem_range]
theorem mem_at {c : List Nat} {z : Nat} (h : z ∈ c) : ∃ x, x < c.length ∧ at' c x = z := by
  obtain ⟨x, hx, e⟩ := List.mem_iff_getElem.mp h
  exact ⟨x, hx, by rw [at_eq hx]; exact e⟩
theorem at_mem {c : List Nat} {x : Nat} (h : x < c.length) : at' c x ∈ c := by
  rw [at_eq h]
  exact List.getElem_mem h
theorem ext_at {c d : List Nat} (hl : c.length = d.length) (h : ∀ x, x < c.length → at' c x = at' d x) : c = d := by
  apply List.ext_getElem hl
  intro x h1 h2
  have q := h x h1
  rw [at_eq h1, at_eq h2] at q
  exact q
theorem row_getD {t : List (List Nat)} {x : Nat} (h : x < t.length) : t.getD x [] = t[x] := by
  rw [List.getD_eq_getElem?_getD, List.getElem?_eq_getElem h]
  rfl
theorem Sq.rowlen {t : List (List Nat)} (S : Sq t) {x : Nat} (h : x < t.length) : (t.getD x []).length = t.length := by
  rw [row_getD h]
  exact (S.row _ (List.getElem_mem h)).1
theorem Sq.mul_lt {t : List (List Nat)} (S : Sq t) {x y : Nat} (hx : x < t.length) (hy : y < t.length) : mul t x y < t.length := by
  unfold mul
  have hl := S.rowlen hx
  have e := at_eq (c := t.getD x []) (x := y) (by rw [hl]; exact hy)
  unfold at' at e
  rw [e]
  have hm := (S.row t[x] (List.getElem_mem hx)).2
  rw [← row_getD hx] at hm
  exact hm _ (List.getElem_mem _)

/-! ### canonical tuples -/
structure Canon (n : Nat) (c : List Nat) : Prop where
  len : c.length = n
  le : ∀ x, x < n → at' c x ≤ x
  fix : ∀ x, x < n → at' c (at' c x) = at' c x
theorem Canon.lt {n : Nat} {c : List Nat} (C : Canon n c) {x : Nat} (h : x < n) : at' c x < n := Nat.lt_of_le_of_lt (C.le x h) h
theorem canon_range (n : Nat) : Canon n (List.range n) := by
  refine ⟨List.length_range, fun x h => ?_, fun x h => ?_⟩
  · rw [at_range h]
    exact Nat.le_refl _
  · rw [at_range h, at_range h]
/-- c refines d -/
def Le (n : Nat) (c d : List Nat) : Prop := ∀ u v, u < n → v < n → at' c u = at' c v → at' d u = at' d v
theorem Le.refl (n : Nat) (c : List Nat) : Le n c c := fun _ _ _ _ h => h
theorem Le.trans {n : Nat} {c d e : List Nat} (a : Le n c d) (b : Le n d e) : Le n c e := fun u v hu hv h => b u v hu hv (a u v hu hv h)
theorem le_iff {n : Nat} {c d : List Nat} (C : Canon n c) : Le n c d ↔ ∀ x, x < n → at' d x = at' d (at' c x) := by
  constructor
  · intro h x hx
    exact h x (at' c x) hx (C.lt hx) (C.fix x hx).symm
  · intro h u v hu hv e
    rw [h u hu, h v hv, e]
theorem canon_antisymm {n : Nat} {c d : List Nat} (C : Canon n c) (D : Canon n d) (h1 : Le n c d) (h2 : Le n d c) : c = d := by
  refine ext_at (C.len.trans D.len.symm) fun x hx => ?_
  rw [C.len] at hx
  have e1 := (le_iff C).mp h1 x hx
  have e2 := (le_iff D).mp h2 x hx
  have a1 : at' c x ≤ at' d x := by
    rw [e2]
    exact C.le _ (D.lt hx)
  have a2 : at' d x ≤ at' c x := by
    rw [e1]
    exact D.le _ (C.lt hx)
  exact Nat.le_antisymm a1 a2
theorem range_le {n : Nat} (d : List Nat) : Le n (List.range n) d := fun u v hu hv h => by
  rw [at_range hu, at_range hv] at h
  rw [h]
def refB (c d : List Nat) : Bool := (List.range c.length).all fun x => decide (at' d x = at' d (at' c x))
theorem refB_iff {n : Nat} {c d : List Nat} (C : Canon n c) : refB c d = true ↔ Le n c d := by
  rw [le_iff C]
  unfold refB
  rw [List.all_eq_true, C.len]
  constructor
  · intro h x hx
    exact of_decide_eq_true (h x (List.mem_range.mpr hx))
  · intro h x hx
    exact decide_eq_true (h x (List.mem_range.mp hx))

/-! ### two classes become one -/
def merge (f : List Nat) (p : Nat × Nat) : List Nat :=
  let lo := min (at' f p.1) (at' f p.2)
  let hi := max (at' f p.1) (at' f p.2)
  f.map fun i => if i = hi then lo else i
theorem merge_len (f : List Nat) (p : Nat × Nat) : (merge f p).length = f.length := by
  unfold merge
  exact List.length_map ..
theorem merge_at {f : List Nat} {p : Nat × Nat} {u : Nat} (h : u < f.length) : at' (merge f p) u = if at' f u = max (at' f p.1) (at' f p.2) then min (at' f p.1) (at' f p.2) else at' f u := by
  unfold merge
  exact at_map h
theorem merge_canon {n : Nat} {f : List Nat} {p : Nat × Nat} (C : Canon n f) (h1 : p.1 < n) (h2 : p.2 < n) : Canon n (merge f p) := by
  have hx := C.lt h1
  have hy := C.lt h2
  have fx := C.fix _ h1
  have fy := C.fix _ h2
  have lo_fix : at' f (min (at' f p.1) (at' f p.2)) = min (at' f p.1) (at' f p.2) := by
    rcases Nat.le_total (at' f p.1) (at' f p.2) with h | h
    · rw [Nat.min_eq_left h]; exact fx
    · rw [Nat.min_eq_right h]; exact fy
  have lo_lt : min (at' f p.1) (at' f p.2) < n := by omega
  refine ⟨(merge_len f p).trans C.len, fun x hx => ?_, fun x hx => ?_⟩
  · rw [merge_at (by rw [C.len]; exact hx)]
    have := C.le x hx
    split
    · omega
    · exact this
  · rw [merge_at (u := x) (by rw [C.len]; exact hx)]
    have q := C.fix x hx
    split
    · rename_i h
      rw [merge_at (by rw [C.len]; exact lo_lt), lo_fix]
      split
      · rfl
      · rfl
    · rename_i h
      rw [merge_at (by rw [C.len]; exact C.lt hx), q, if_neg h]
theorem merge_rel {n : Nat} {f : List Nat} {p : Nat × Nat} (C : Canon n f) (h1 : p.1 < n) (h2 : p.2 < n) {u v : Nat} (hu : u < n) (hv : v < n) :
    at' (merge f p) u = at' (merge f p) v ↔ at' f u = at' f v ∨ (at' f u = at' f p.1 ∧ at' f v = at' f p.2) ∨ (at' f u = at' f p.2 ∧ at' f v = at' f p.1) := by
  rw [merge_at (by rw [C.len]; exact hu), merge_at (by rw [C.len]; exact hv)]
  generalize at' f u = a
  generalize at' f v = b
  generalize at' f p.1 = x
  generalize at' f p.2 = y
  split <;> split <;> omega
theorem merge_le {n : Nat} {f : List Nat} {p : Nat × Nat} (C : Canon n f) (h1 : p.1 < n) (h2 : p.2 < n) : Le n f (merge f p) := fun u v hu hv h => (merge_rel C h1 h2 hu hv).mpr (.inl h)
theorem merge_pair {n : Nat} {f : List Nat} {p : Nat × Nat} (C : Canon n f) (h1 : p.1 < n) (h2 : p.2 < n) : at' (merge f p) p.1 = at' (merge f p) p.2 := (merge_rel C h1 h2 h1 h2).mpr (.inr (.inl ⟨rfl, rfl⟩))
/-- whatever equivalence contains f and the pair contains the merged one -/
theorem merge_least {n : Nat} {f : List Nat} {p : Nat × Nat} (C : Canon n f) (h1 : p.1 < n) (h2 : p.2 < n) {g : Nat → Nat} (hf : ∀ u v, u < n → v < n → at' f u = at' f v → g u = g v) (hp : g p.1 = g p.2) :
    ∀ u v, u < n → v < n → at' (merge f p) u = at' (merge f p) v → g u = g v := fun u v hu hv h => by
  rcases (merge_rel C h1 h2 hu hv).mp h with h | ⟨h, k⟩ | ⟨h, k⟩
  · exact hf u v hu hv h
  · rw [hf u _ hu h1 h, hp, hf v _ hv h2 k]
  · rw [hf u _ hu h2 h, ← hp, hf v _ hv h1 k]

/-! ### the least equivalence with some pairs -/
def classesOf (ps : List (Nat × Nat)) (n : Nat) : List Nat := ps.foldl merge (List.range n)
theorem fold_canon {n : Nat} : ∀ (ps : List (Nat × Nat)) (f : List Nat), (∀ p ∈ ps, p.1 < n ∧ p.2 < n) → Canon n f → Canon n (ps.foldl merge f)
  | [], f, _, C => C
  | p :: ps, f, h, C => fold_canon ps (merge f p) (fun q hq => h q (List.mem_cons_of_mem _ hq)) (merge_canon C (h p List.mem_cons_self).1 (h p List.mem_cons_self).2)
theorem fold_le {n : Nat} : ∀ (ps : List (Nat × Nat)) (f : List Nat), (∀ p ∈ ps, p.1 < n ∧ p.2 < n) → Canon n f → Le n f (ps.foldl merge f) ∧ ∀ p ∈ ps, at' (ps.foldl merge f) p.1 = at' (ps.foldl merge f) p.2
  | [], f, _, C => ⟨Le.refl _ _, fun p hp => by cases hp⟩
  | p :: ps, f, h, C => by
    obtain ⟨h1, h2⟩ := h p List.mem_cons_self
    obtain ⟨a, b⟩ := fold_le ps (merge f p) (fun q hq => h q (List.mem_cons_of_mem _ hq)) (merge_canon C h1 h2)
    refine ⟨(merge_le C h1 h2).trans a, fun q hq => ?_⟩
    rcases List.mem_cons.mp hq with e | hq
    · rw [e]
      exact a _ _ h1 h2 (merge_pair C h1 h2)
    · exact b q hq
theorem fold_least {n : Nat} {g : Nat → Nat} : ∀ (ps : List (Nat × Nat)) (f : List Nat), (∀ p ∈ ps, p.1 < n ∧ p.2 < n) → Canon n f → (∀ u v, u < n → v < n → at' f u = at' f v → g u = g v) → (∀ p ∈ ps, g p.1 = g p.2) →
    ∀ u v, u < n → v < n → at' (ps.foldl merge f) u = at' (ps.foldl merge f) v → g u = g v
  | [], f, _, _, hf, _ => hf
  | p :: ps, f, h, C, hf, hp => by
    obtain ⟨h1, h2⟩ := h p List.mem_cons_self
    exact fold_least ps (merge f p) (fun q hq => h q (List.mem_cons_of_mem _ hq)) (merge_canon C h1 h2) (merge_least C h1 h2 hf (hp p List.mem_cons_self)) fun q hq => hp q (List.mem_cons_of_mem _ hq)

/-! ### the join -/
def enumP (c : List Nat) : List (Nat × Nat) := (List.range c.length).map fun x => (x, at' c x)
def joinC (c d : List Nat) : List Nat := classesOf (enumP c ++ enumP d) c.length
theorem enumP_mem {c : List Nat} {p : Nat × Nat} : p ∈ enumP c ↔ p.1 < c.length ∧ p.2 = at' c p.1 := by
  unfold enumP
  rw [List.mem_map]
  constructor
  · rintro ⟨x, hx, rfl⟩
    exact ⟨List.mem_range.mp hx, rfl⟩
  · rintro ⟨h1, h2⟩
    exact ⟨p.1, List.mem_range.mpr h1, by rw [← h2]⟩
theorem join_pairs {n : Nat} {c d : List Nat} (C : Canon n c) (D : Canon n d) : ∀ p ∈ enumP c ++ enumP d, p.1 < n ∧ p.2 < n := fun p hp => by
  rcases List.mem_append.mp hp with h | h
  · obtain ⟨h1, h2⟩ := enumP_mem.mp h
    rw [C.len] at h1
    exact ⟨h1, by rw [h2]; exact C.lt h1⟩
  · obtain ⟨h1, h2⟩ := enumP_mem.mp h
    rw [D.len] at h1
    exact ⟨h1, by rw [h2]; exact D.lt h1⟩
theorem join_canon {n : Nat} {c d : List Nat} (C : Canon n c) (D : Canon n d) : Canon n (joinC c d) := by
  unfold joinC classesOf
  rw [C.len]
  exact fold_canon _ _ (join_pairs C D) (canon_range n)
theorem join_left {n : Nat} {c d : List Nat} (C : Canon n c) (D : Canon n d) : Le n c (joinC c d) := by
  rw [le_iff C]
  intro x hx
  unfold joinC classesOf
  rw [C.len]
  exact (fold_le _ _ (join_pairs C D) (canon_range n)).2 (x, at' c x) (List.mem_append_left _ (enumP_mem.mpr ⟨by rw [C.len]; exact hx, rfl⟩))
theorem join_right {n : Nat} {c d : List Nat} (C : Canon n c) (D : Canon n d) : Le n d (joinC c d) := by
  rw [le_iff D]
  intro x hx
  unfold joinC classesOf
  rw [C.len]
  exact (fold_le _ _ (join_pairs C D) (canon_range n)).2 (x, at' d x) (List.mem_append_right _ (enumP_mem.mpr ⟨by rw [D.len]; exact hx, rfl⟩))
theorem join_least {n : Nat} {c d e : List Nat} (C : Canon n c) (D : Canon n d) (h1 : Le n c e) (h2 : Le n d e) : Le n (joinC c d) e := by
  unfold Le joinC classesOf
  rw [C.len]
  refine fold_least _ _ (join_pairs C D) (canon_range n) (fun u v hu hv h => range_le e u v hu hv h) fun p hp => ?_
  rcases List.mem_append.mp hp with h | h
  · obtain ⟨a, b⟩ := enumP_mem.mp h
    rw [C.len] at a
    rw [b]
    exact (le_iff C).mp h1 _ a
  · obtain ⟨a, b⟩ := enumP_mem.mp h
    rw [D.len] at a
    rw [b]
    exact (le_iff D).mp h2 _ a

/-! ### congruences -/
/-- what is equivalent stays so by products -/
def Comp (t : List (List Nat)) (g : Nat → Nat) : Prop := ∀ x y z, x < t.length → y < t.length → z < t.length → g x = g y → g (mul t x z) = g (mul t y z) ∧ g (mul t z x) = g (mul t z y)
structure IsCong (t : List (List Nat)) (c : List Nat) : Prop where
  canon : Canon t.length c
  comp : Comp t (at' c)
theorem cong_range {t : List (List Nat)} (S : Sq t) : IsCong t (List.range t.length) := by
  refine ⟨canon_range _, fun x y z hx hy hz h => ?_⟩
  rw [at_range hx, at_range hy] at h
  subst h
  exact ⟨rfl, rfl⟩
/-- the join of congruences is a congruence -/
theorem cong_join {t : List (List Nat)} {c d : List Nat} (S : Sq t) (C : IsCong t c) (D : IsCong t d) : IsCong t (joinC c d) := by
  refine ⟨join_canon C.canon D.canon, fun x y z hx hy hz h => ?_⟩
  have hl := join_left C.canon D.canon
  have hr := join_right C.canon D.canon
  have step : ∀ g : Nat → Nat, (∀ p ∈ enumP c ++ enumP d, g p.1 = g p.2) → g x = g y := fun g hg => by
    unfold joinC classesOf at h
    rw [C.canon.len] at h
    exact fold_least (g := g) _ _ (join_pairs C.canon D.canon) (canon_range _) (fun u v hu hv q => by rw [at_range hu, at_range hv] at q; rw [q]) hg x y hx hy h
  constructor
  · refine step (fun w => at' (joinC c d) (mul t w z)) fun p hp => ?_
    have hb := join_pairs C.canon D.canon p hp
    have l1 := S.mul_lt hb.1 hz
    have l2 := S.mul_lt hb.2 hz
    rcases List.mem_append.mp hp with h | h
    · obtain ⟨a, b⟩ := enumP_mem.mp h
      refine hl _ _ l1 l2 (C.comp _ _ _ hb.1 hb.2 hz ?_).1
      rw [b]
      exact (C.canon.fix _ hb.1).symm
    · obtain ⟨a, b⟩ := enumP_mem.mp h
      refine hr _ _ l1 l2 (D.comp _ _ _ hb.1 hb.2 hz ?_).1
      rw [b]
      exact (D.canon.fix _ hb.1).symm
  · refine step (fun w => at' (joinC c d) (mul t z w)) fun p hp => ?_
    have hb := join_pairs C.canon D.canon p hp
    have l1 := S.mul_lt hz hb.1
    have l2 := S.mul_lt hz hb.2
    rcases List.mem_append.mp hp with h | h
    · obtain ⟨a, b⟩ := enumP_mem.mp h
      refine hl _ _ l1 l2 (C.comp _ _ _ hb.1 hb.2 hz ?_).2
      rw [b]
      exact (C.canon.fix _ hb.1).symm
    · obtain ⟨a, b⟩ := enumP_mem.mp h
      refine hr _ _ l1 l2 (D.comp _ _ _ hb.1 hb.2 hz ?_).2
      rw [b]
      exact (D.canon.fix _ hb.1).symm

/-! ### the congruence that some pairs generate -/
structure GenBy (t : List (List Nat)) (ps : List (Nat × Nat)) (g : List Nat) : Prop where
  cong : IsCong t g
  pairs : ∀ p ∈ ps, at' g p.1 = at' g p.2
  least : ∀ d, IsCong t d → (∀ p ∈ ps, at' d p.1 = at' d p.2) → Le t.length g d
/-- f contains c and the pairs that wait -/
def Holds (n : Nat) (c : List Nat) (ws : List (Nat × Nat)) (g : Nat → Nat) : Prop := (∀ u v, u < n → v < n → at' c u = at' c v → g u = g v) ∧ ∀ p ∈ ws, g p.1 = g p.2
/-- between two turns of the work list -/
structure GenInv (t : List (List Nat)) (ps : List (Nat × Nat)) (c : List Nat) (ws : List (Nat × Nat)) : Prop where
  canon : Canon t.length c
  inn : ∀ p ∈ ws, p.1 < t.length ∧ p.2 < t.length
  low : ∀ d, IsCong t d → (∀ p ∈ ps, at' d p.1 = at' d p.2) → Holds t.length c ws (at' d)
  pairs : ∀ g, Holds t.length c ws g → ∀ p ∈ ps, g p.1 = g p.2
  comp : ∀ g, Holds t.length c ws g → ∀ u v z, u < t.length → v < t.length → z < t.length → at' c u = at' c v → g (mul t u z) = g (mul t v z) ∧ g (mul t z u) = g (mul t z v)
theorem gen_start {t : List (List Nat)} {ps : List (Nat × Nat)} (h : ∀ p ∈ ps, p.1 < t.length ∧ p.2 < t.length) : GenInv t ps (List.range t.length) ps := by
  refine ⟨canon_range _, h, fun d D hd => ⟨range_le d, hd⟩, fun g hg => hg.2, fun g hg u v z hu hv hz e => ?_⟩
  rw [at_range hu, at_range hv] at e
  subst e
  exact ⟨rfl, rfl⟩
theorem gen_end {t : List (List Nat)} {ps : List (Nat × Nat)} {c : List Nat} (I : GenInv t ps c []) : GenBy t ps c := by
  have hc : Holds t.length c [] (at' c) := ⟨fun _ _ _ _ h => h, fun p hp => by cases hp⟩
  exact ⟨⟨I.canon, fun x y z hx hy hz h => I.comp _ hc x y z hx hy hz h⟩, I.pairs _ hc, fun d D hd => (I.low d D hd).1⟩
theorem gen_skip {t : List (List Nat)} {ps : List (Nat × Nat)} {c : List Nat} {ws : List (Nat × Nat)} {x y : Nat} (I : GenInv t ps c (ws ++ [(x, y)])) (e : at' c x = at' c y) : GenInv t ps c ws := by
  have hxy := I.inn (x, y) (List.mem_append_right _ (List.mem_singleton.mpr rfl))
  have up : ∀ {g}, Holds t.length c ws g → Holds t.length c (ws ++ [(x, y)]) g := fun {g} h => by
    refine ⟨h.1, fun p hp => ?_⟩
    rcases List.mem_append.mp hp with q | q
    · exact h.2 p q
    · rw [List.mem_singleton.mp q]
      exact h.1 _ _ hxy.1 hxy.2 e
  exact ⟨I.canon, fun p hp => I.inn p (List.mem_append_left _ hp), fun d D hd => ⟨(I.low d D hd).1, fun p hp => (I.low d D hd).2 p (List.mem_append_left _ hp)⟩, fun g h => I.pairs g (up h), fun g h => I.comp g (up h)⟩
/-- the pairs that wait behind a merging -/
def trans (t : List (List Nat)) (x y : Nat) : List (Nat × Nat) := (List.range t.length).flatMap fun z => [(mul t x z, mul t y z), (mul t z x, mul t z y)]
theorem mem_trans {t : List (List Nat)} {x y : Nat} {p : Nat × Nat} : p ∈ trans t x y ↔ ∃ z, z < t.length ∧ (p = (mul t x z, mul t y z) ∨ p = (mul t z x, mul t z y)) := by
  unfold trans
  rw [List.mem_flatMap]
  constructor
  · rintro ⟨z, hz, h⟩
    refine ⟨z, List.mem_range.mp hz, ?_⟩
    rcases List.mem_cons.mp h with h | h
    · exact .inl h
    · exact .inr (List.mem_singleton.mp h)
  · rintro ⟨z, hz, h⟩
    refine ⟨z, List.mem_range.mpr hz, ?_⟩
    rcases h with h | h
    · rw [h]
      exact List.mem_cons_self
    · rw [h]
      exact List.mem_cons_of_mem _ (List.mem_singleton.mpr rfl)
theorem gen_merge {t : List (List Nat)} {ps : List (Nat × Nat)} {c : List Nat} {ws : List (Nat × Nat)} {x y : Nat} (S : Sq t) (I : GenInv t ps c (ws ++ [(x, y)])) : GenInv t ps (merge c (x, y)) (ws ++ trans t x y) := by
  have hxy := I.inn (x, y) (List.mem_append_right _ (List.mem_singleton.mpr rfl))
  have up : ∀ {g}, Holds t.length (merge c (x, y)) (ws ++ trans t x y) g → Holds t.length c (ws ++ [(x, y)]) g := fun {g} h => by
    refine ⟨fun u v hu hv e => h.1 u v hu hv (merge_le I.canon hxy.1 hxy.2 u v hu hv e), fun p hp => ?_⟩
    rcases List.mem_append.mp hp with q | q
    · exact h.2 p (List.mem_append_left _ q)
    · rw [List.mem_singleton.mp q]
      exact h.1 _ _ hxy.1 hxy.2 (merge_pair I.canon hxy.1 hxy.2)
  refine ⟨merge_canon I.canon hxy.1 hxy.2, fun p hp => ?_, fun d D hd => ?_, fun g h => I.pairs g (up h), fun g h u v z hu hv hz e => ?_⟩
  · rcases List.mem_append.mp hp with q | q
    · exact I.inn p (List.mem_append_left _ q)
    · obtain ⟨z, hz, e | e⟩ := mem_trans.mp q
      · rw [e]
        exact ⟨S.mul_lt hxy.1 hz, S.mul_lt hxy.2 hz⟩
      · rw [e]
        exact ⟨S.mul_lt hz hxy.1, S.mul_lt hz hxy.2⟩
  · obtain ⟨a, b⟩ := I.low d D hd
    have exy := b (x, y) (List.mem_append_right _ (List.mem_singleton.mpr rfl))
    refine ⟨merge_least I.canon hxy.1 hxy.2 a exy, fun p hp => ?_⟩
    rcases List.mem_append.mp hp with q | q
    · exact b p (List.mem_append_left _ q)
    · obtain ⟨z, hz, e | e⟩ := mem_trans.mp q
      · rw [e]
        exact (D.comp x y z hxy.1 hxy.2 hz exy).1
      · rw [e]
        exact (D.comp x y z hxy.1 hxy.2 hz exy).2
  · have h0 := I.comp g (up h)
    have hz1 : g (mul t x z) = g (mul t y z) := h.2 (mul t x z, mul t y z) (List.mem_append_right _ (mem_trans.mpr ⟨z, hz, .inl rfl⟩))
    have hz2 : g (mul t z x) = g (mul t z y) := h.2 (mul t z x, mul t z y) (List.mem_append_right _ (mem_trans.mpr ⟨z, hz, .inr rfl⟩))
    rcases (merge_rel I.canon hxy.1 hxy.2 hu hv).mp e with q | ⟨q1, q2⟩ | ⟨q1, q2⟩
    · exact h0 u v z hu hv hz q
    · obtain ⟨a1, a2⟩ := h0 u x z hu hxy.1 hz q1
      obtain ⟨b1, b2⟩ := h0 v y z hv hxy.2 hz q2
      exact ⟨by rw [a1, hz1, b1], by rw [a2, hz2, b2]⟩
    · obtain ⟨a1, a2⟩ := h0 u y z hu hxy.2 hz q1
      obtain ⟨b1, b2⟩ := h0 v x z hv hxy.1 hz q2
      exact ⟨by rw [a1, ← hz1, b1], by rw [a2, ← hz2, b2]⟩

/-! ### all congruences are joins of those that one pair generates -/
/-- what stands when no layer is left -/
structure AllDone (t : List (List Nat)) (found single : List (List Nat)) : Prop where
  base : List.range t.length ∈ found
  congs : ∀ c ∈ found, IsCong t c
  gens : ∀ s ∈ single, ∃ p : Nat × Nat, p.1 < t.length ∧ p.2 < t.length ∧ GenBy t [p] s
  every : ∀ x y, y < x → x < t.length → ∃ s ∈ single, GenBy t [(y, x)] s
  closed : ∀ c ∈ found, ∀ s ∈ single, joinC c s ∈ found
theorem all_found {t : List (List Nat)} {found single : List (List Nat)} (S : Sq t) (A : AllDone t found single) {d : List Nat} (D : IsCong t d) : d ∈ found := by
  -- some found one contains the first k pairs (x, d x) and lies below d
  have climb : ∀ k, k ≤ t.length → ∃ c ∈ found, Le t.length c d ∧ ∀ x, x < k → at' c x = at' c (at' d x) := by
    intro k
    induction k with
    | zero => exact fun _ => ⟨_, A.base, range_le d, fun x hx => absurd hx (Nat.not_lt_zero _)⟩
    | succ k ih =>
      intro hk
      obtain ⟨c, hc, hle, hx⟩ := ih (Nat.le_of_succ_le hk)
      have hkn : k < t.length := hk
      have C := A.congs c hc
      by_cases e : at' d k = k
      · refine ⟨c, hc, hle, fun x hxk => ?_⟩
        by_cases q : x = k
        · rw [q, e]
        · exact hx x (by omega)
      · have hlt : at' d k < k := by
          have := D.canon.le k hkn
          omega
        obtain ⟨s, hs, G⟩ := A.every k (at' d k) hlt hkn
        have Sc := G.cong
        refine ⟨joinC c s, A.closed c hc s hs, join_least C.canon Sc.canon hle (G.least d D fun p hp => ?_), fun x hxk => ?_⟩
        · rw [List.mem_singleton.mp hp]
          exact D.canon.fix k hkn
        · by_cases q : x = k
          · rw [q]
            exact (join_right C.canon Sc.canon _ _ (D.canon.lt hkn) hkn (G.pairs _ (List.mem_singleton.mpr rfl))).symm
          · exact join_left C.canon Sc.canon _ _ (by omega) (D.canon.lt (by omega)) (hx x (by omega))
  obtain ⟨c, hc, hle, hx⟩ := climb t.length (Nat.le_refl _)
  have C := A.congs c hc
  have e : c = d := canon_antisymm C.canon D.canon hle ((le_iff D.canon).mpr hx)
  rw [← e]
  exact hc
end M7
end
section
set_option linter.all false
set_option maxRecDepth 100000
/-! all tuples, all congruences in order, homomorphisms, kernels, quotients -/
namespace M7

/-! ### all tuples -/
def rowsOf (n : Nat) : Nat → List (List Nat)
  | 0 => [[]]
  | k + 1 => (rowsOf n k).flatMap fun r => (List.range n).map fun x => r ++ [x]
theorem mem_rowsOf {n : Nat} : ∀ {k : Nat} {r : List Nat}, r ∈ rowsOf n k ↔ r.length = k ∧ ∀ z ∈ r, z < n
  | 0, r => by
    unfold rowsOf
    rw [List.mem_singleton]
    constructor
    · rintro rfl
      exact ⟨rfl, fun z hz => by cases hz⟩
    · rintro ⟨h, _⟩
      exact List.length_eq_zero_iff.mp h
  | k + 1, r => by
    unfold rowsOf
    rw [List.mem_flatMap]
    constructor
    · rintro ⟨q, hq, h⟩
      obtain ⟨x, hx, rfl⟩ := List.mem_map.mp h
      obtain ⟨h1, h2⟩ := mem_rowsOf.mp hq
      refine ⟨by rw [List.length_append, h1]; rfl, fun z hz => ?_⟩
      rcases List.mem_append.mp hz with e | e
      · exact h2 z e
      · rw [List.mem_singleton.mp e]
        exact List.mem_range.mp hx
    · rintro ⟨h1, h2⟩
      have hne : r ≠ [] := fun e => by rw [e] at h1; cases h1
      refine ⟨r.dropLast, mem_rowsOf.mpr ⟨by rw [List.length_dropLast, h1]; rfl, fun z hz => h2 z (List.dropLast_subset _ hz)⟩, ?_⟩
      exact List.mem_map.mpr ⟨r.getLast hne, List.mem_range.mpr (h2 _ (List.getLast_mem hne)), List.dropLast_concat_getLast hne⟩
def codeN (B : Nat) (r : List Nat) : Nat := r.foldl (fun a x => a * B + x) 0
theorem codeN_snoc (B : Nat) (r : List Nat) (x : Nat) : codeN B (r ++ [x]) = codeN B r * B + x := by
  unfold codeN
  rw [List.foldl_append]
  rfl
theorem pairwise_flatMap {α β : Type} {R : β → β → Prop} {f : α → List β} : ∀ {l : List α}, (∀ a ∈ l, (f a).Pairwise R) → l.Pairwise (fun a b => ∀ x ∈ f a, ∀ y ∈ f b, R x y) → (l.flatMap f).Pairwise R
  | [], _, _ => List.Pairwise.nil
  | a :: l, h1, h2 => by
    obtain ⟨p, q⟩ := List.pairwise_cons.mp h2
    rw [List.flatMap_cons]
    refine List.pairwise_append.mpr ⟨h1 a List.mem_cons_self, pairwise_flatMap (fun b hb => h1 b (List.mem_cons_of_mem _ hb)) q, fun x hx y hy => ?_⟩
    obtain ⟨b, hb, hyb⟩ := List.mem_flatMap.mp hy
    exact p b hb x hx y hyb
theorem rows_sorted (n : Nat) : ∀ k, (rowsOf n k).Pairwise (fun r q => codeN n r < codeN n q)
  | 0 => List.pairwise_singleton _ _
  | k + 1 => by
    unfold rowsOf
    refine pairwise_flatMap (fun r _ => ?_) (List.Pairwise.imp (fun {r q} (h : codeN n r < codeN n q) x hx y hy => ?_) (rows_sorted n k))
    · rw [List.pairwise_map]
      refine List.Pairwise.imp (fun {x y} (h : x < y) => ?_) List.pairwise_lt_range
      rw [codeN_snoc, codeN_snoc]
      omega
    · obtain ⟨a, ha, rfl⟩ := List.mem_map.mp hx
      obtain ⟨b, hb, rfl⟩ := List.mem_map.mp hy
      have ha' := List.mem_range.mp ha
      rw [codeN_snoc, codeN_snoc]
      have : (codeN n r + 1) * n ≤ codeN n q * n := Nat.mul_le_mul_right n h
      rw [Nat.add_mul, Nat.one_mul] at this
      omega
theorem rows_nodup (n k : Nat) : (rowsOf n k).Nodup := List.Pairwise.imp (fun {r q} (h : codeN n r < codeN n q) e => by rw [e] at h; exact Nat.lt_irrefl _ h) (rows_sorted n k)
/-- the ascending arrangement is one -/
theorem sorted_eq {α : Type} {key : α → Int} : ∀ {l m : List α}, l.Perm m → l.Pairwise (fun a b => key a ≤ key b) → m.Pairwise (fun a b => key a < key b) → l = m
  | [], m, h, _, _ => (List.nil_perm.mp h).symm
  | a :: l, [], h, _, _ => absurd h.length_eq (by simp)
  | a :: l, b :: m, h, h1, h2 => by
    obtain ⟨p1, q1⟩ := List.pairwise_cons.mp h1
    obtain ⟨p2, q2⟩ := List.pairwise_cons.mp h2
    have ha : a ∈ b :: m := h.mem_iff.mp List.mem_cons_self
    have hb : b ∈ a :: l := h.mem_iff.mpr List.mem_cons_self
    have e : a = b := by
      rcases List.mem_cons.mp ha with e | ha
      · exact e
      · rcases List.mem_cons.mp hb with e | hb
        · exact e.symm
        · have x := p2 a ha
          have y := p1 b hb
          omega
    subst e
    rw [sorted_eq (List.Perm.cons_inv h) q1 q2]

/-! ### all congruences, ascending -/
def congB (t : List (List Nat)) (c : List Nat) : Bool :=
  (List.range t.length).all (fun x => decide (at' c x ≤ x) && decide (at' c (at' c x) = at' c x)) &&
  (List.range t.length).all fun x => (List.range t.length).all fun y => (List.range t.length).all fun z => !decide (at' c x = at' c y) || (decide (at' c (mul t x z) = at' c (mul t y z)) && decide (at' c (mul t z x) = at' c (mul t z y)))
theorem congB_iff {t : List (List Nat)} {c : List Nat} (hl : c.length = t.length) : congB t c = true ↔ IsCong t c := by
  unfold congB
  rw [Bool.and_eq_true]
  simp only [List.all_eq_true, List.mem_range, Bool.and_eq_true, Bool.or_eq_true, Bool.not_eq_true', decide_eq_true_eq, decide_eq_false_iff_not]
  constructor
  · rintro ⟨h1, h2⟩
    refine ⟨⟨hl, fun x hx => (h1 x hx).1, fun x hx => (h1 x hx).2⟩, fun x y z hx hy hz e => ?_⟩
    rcases h2 x hx y hy z hz with q | q
    · exact absurd e q
    · exact q
  · rintro ⟨C, h⟩
    refine ⟨fun x hx => ⟨C.le x hx, C.fix x hx⟩, fun x hx y hy z hz => ?_⟩
    by_cases e : at' c x = at' c y
    · exact .inr (h x y z hx hy hz e)
    · exact .inl e
def congs (t : List (List Nat)) : List (List Nat) := (rowsOf t.length t.length).filter (congB t)
theorem mem_congs {t : List (List Nat)} {c : List Nat} : c ∈ congs t ↔ IsCong t c := by
  unfold congs
  rw [List.mem_filter, mem_rowsOf]
  constructor
  · rintro ⟨⟨h1, _⟩, h⟩
    exact (congB_iff h1).mp h
  · intro h
    refine ⟨⟨h.canon.len, fun z hz => ?_⟩, (congB_iff h.canon.len).mpr h⟩
    obtain ⟨x, hx, rfl⟩ := mem_at hz
    rw [h.canon.len] at hx
    exact h.canon.lt hx
theorem congs_sorted (t : List (List Nat)) : (congs t).Pairwise (fun r q => codeN t.length r < codeN t.length q) := (rows_sorted _ _).filter _
theorem congs_nodup (t : List (List Nat)) : (congs t).Nodup := (rows_nodup _ _).filter _

/-! ### homomorphisms and kernels -/
def keepsB (a b : List (List Nat)) (f : List Nat) : Bool := (List.range a.length).all fun x => (List.range a.length).all fun y => decide (at' f (mul a x y) = mul b (at' f x) (at' f y))
structure IsHom (a b : List (List Nat)) (f : List Nat) : Prop where
  len : f.length = a.length
  lt : ∀ x, x < a.length → at' f x < b.length
  keeps : ∀ x y, x < a.length → y < a.length → at' f (mul a x y) = mul b (at' f x) (at' f y)
def homsL (a b : List (List Nat)) : List (List Nat) := (rowsOf b.length a.length).filter (keepsB a b)
theorem keepsB_iff {a b : List (List Nat)} {f : List Nat} : keepsB a b f = true ↔ ∀ x y, x < a.length → y < a.length → at' f (mul a x y) = mul b (at' f x) (at' f y) := by
  unfold keepsB
  simp only [List.all_eq_true, List.mem_range, decide_eq_true_eq]
  exact ⟨fun h x y hx hy => h x hx y hy, fun h x hx y hy => h x y hx hy⟩
theorem mem_homsL {a b : List (List Nat)} {f : List Nat} : f ∈ homsL a b ↔ IsHom a b f := by
  unfold homsL
  rw [List.mem_filter, mem_rowsOf, keepsB_iff]
  constructor
  · rintro ⟨⟨h1, h2⟩, h3⟩
    exact ⟨h1, fun x hx => h2 _ (at_mem (by rw [h1]; exact hx)), h3⟩
  · rintro ⟨h1, h2, h3⟩
    refine ⟨⟨h1, fun z hz => ?_⟩, h3⟩
    obtain ⟨x, hx, rfl⟩ := mem_at hz
    exact h2 x (by rw [← h1]; exact hx)
theorem homsL_nodup (a b : List (List Nat)) : (homsL a b).Nodup := (rows_nodup _ _).filter _
theorem idx_at {f : List Nat} {y : Nat} (h : y ∈ f) : f.idxOf y < f.length ∧ at' f (f.idxOf y) = y := by
  have hl := List.idxOf_lt_length_iff.mpr h
  refine ⟨hl, ?_⟩
  rw [at_eq hl]
  exact List.getElem_idxOf hl
theorem idx_le {f : List Nat} {x : Nat} (h : x < f.length) : f.idxOf (at' f x) ≤ x := by
  rcases Nat.lt_or_ge x (f.idxOf (at' f x)) with q | q
  · have := List.not_of_lt_findIdx (p := fun y => y == at' f x) (xs := f) (i := x) q
    exact absurd (at_eq h).symm (beq_eq_false_iff_ne.mp this)
  · exact q
def ker (f : List Nat) : List Nat := f.map fun y => f.idxOf y
theorem ker_at {f : List Nat} {x : Nat} (h : x < f.length) : at' (ker f) x = f.idxOf (at' f x) := at_map h
theorem ker_rel {f : List Nat} {u v : Nat} (hu : u < f.length) (hv : v < f.length) : at' (ker f) u = at' (ker f) v ↔ at' f u = at' f v := by
  rw [ker_at hu, ker_at hv]
  constructor
  · intro h
    have a := (idx_at (at_mem hu)).2
    have b := (idx_at (at_mem hv)).2
    rw [← a, ← b, h]
  · intro h
    rw [h]
theorem ker_canon {f : List Nat} : Canon f.length (ker f) := by
  refine ⟨List.length_map .., fun x hx => ?_, fun x hx => ?_⟩
  · rw [ker_at hx]
    exact idx_le hx
  · have q := idx_at (at_mem hx)
    rw [ker_at hx, ker_at q.1, q.2]
theorem ker_cong {a b : List (List Nat)} {f : List Nat} (S : Sq a) (h : IsHom a b f) : IsCong a (ker f) := by
  refine ⟨by rw [← h.len]; exact ker_canon, fun x y z hx hy hz e => ?_⟩
  have l : ∀ {w}, w < a.length → w < f.length := fun {w} hw => by rw [h.len]; exact hw
  have e' := (ker_rel (l hx) (l hy)).mp e
  rw [ker_rel (l (S.mul_lt hx hz)) (l (S.mul_lt hy hz)), ker_rel (l (S.mul_lt hz hx)) (l (S.mul_lt hz hy)), h.keeps x z hx hz, h.keeps y z hy hz, h.keeps z x hz hx, h.keeps z y hz hy, e']
  exact ⟨rfl, rfl⟩

/-! ### quotients -/
def heads (c : List Nat) : List Nat := (List.range c.length).filter fun x => decide (at' c x = x)
def numbers (c : List Nat) : List Nat := c.map fun y => (heads c).idxOf y
def quot (t : List (List Nat)) (c : List Nat) : List (List Nat) := (heads c).map fun x => (heads c).map fun y => at' (numbers c) (mul t x y)
theorem mem_heads {c : List Nat} {x : Nat} : x ∈ heads c ↔ x < c.length ∧ at' c x = x := by
  unfold heads
  rw [List.mem_filter, List.mem_range, decide_eq_true_eq]
theorem heads_nodup (c : List Nat) : (heads c).Nodup := List.Pairwise.filter _ List.nodup_range
section
variable {t : List (List Nat)} {c : List Nat} (S : Sq t) (C : IsCong t c)
include S C
theorem num_lt {x : Nat} (hx : x < t.length) : at' (numbers c) x < (heads c).length ∧ at' (heads c) (at' (numbers c) x) = at' c x := by
  have hc : x < c.length := by rw [C.canon.len]; exact hx
  have e : at' (numbers c) x = (heads c).idxOf (at' c x) := at_map hc
  rw [e]
  exact idx_at (mem_heads.mpr ⟨by rw [C.canon.len]; exact C.canon.lt hx, C.canon.fix x hx⟩)
theorem head_lt {i : Nat} (hi : i < (heads c).length) : at' (heads c) i < t.length ∧ at' c (at' (heads c) i) = at' (heads c) i := by
  have q := mem_heads.mp (at_mem hi)
  rw [C.canon.len] at q
  exact q
theorem num_head {i : Nat} (hi : i < (heads c).length) : at' (numbers c) (at' (heads c) i) = i := by
  obtain ⟨h1, h2⟩ := head_lt S C hi
  have e : at' (numbers c) (at' (heads c) i) = (heads c).idxOf (at' c (at' (heads c) i)) := at_map (by rw [C.canon.len]; exact h1)
  rw [e, h2, at_eq hi]
  have hn := heads_nodup c
  have h3 := idx_at (f := heads c) (y := (heads c)[i]) (List.getElem_mem hi)
  rw [at_eq h3.1] at h3
  exact (List.getElem_inj hn).mp h3.2
theorem num_rel {x y : Nat} (hx : x < t.length) (hy : y < t.length) : at' (numbers c) x = at' (numbers c) y ↔ at' c x = at' c y := by
  constructor
  · intro h
    rw [← (num_lt S C hx).2, ← (num_lt S C hy).2, h]
  · intro h
    have ex : at' (numbers c) x = (heads c).idxOf (at' c x) := at_map (by rw [C.canon.len]; exact hx)
    have ey : at' (numbers c) y = (heads c).idxOf (at' c y) := at_map (by rw [C.canon.len]; exact hy)
    rw [ex, ey, h]
theorem quot_len : (quot t c).length = (heads c).length := List.length_map ..
theorem quot_mul {i j : Nat} (hi : i < (heads c).length) (hj : j < (heads c).length) : mul (quot t c) i j = at' (numbers c) (mul t (at' (heads c) i) (at' (heads c) j)) := by
  unfold mul
  rw [row_getD (by rw [quot_len S C]; exact hi)]
  unfold quot
  rw [List.getElem_map, ← at_eq hi]
  exact at_map hj
theorem num_mul {x y : Nat} (hx : x < t.length) (hy : y < t.length) : at' (numbers c) (mul t x y) = mul (quot t c) (at' (numbers c) x) (at' (numbers c) y) := by
  obtain ⟨a1, a2⟩ := num_lt S C hx
  obtain ⟨b1, b2⟩ := num_lt S C hy
  rw [quot_mul S C a1 b1, a2, b2]
  have cx := C.canon.lt hx
  have cy := C.canon.lt hy
  rw [num_rel S C (S.mul_lt hx hy) (S.mul_lt cx cy)]
  rw [(C.comp x (at' c x) y hx cx hy (C.canon.fix x hx).symm).1, (C.comp y (at' c y) (at' c x) hy cy cx (C.canon.fix y hy).symm).2]
theorem quot_sq : Sq (quot t c) := by
  have h0 : 0 ∈ heads c := mem_heads.mpr ⟨by rw [C.canon.len]; exact S.pos, Nat.le_zero.mp (C.canon.le 0 S.pos)⟩
  refine ⟨by rw [quot_len S C]; exact List.length_pos_of_mem h0, ?_, fun r hr => ?_⟩
  · rw [quot_len S C]
    have h1 : (heads c).length ≤ c.length := by
      unfold heads
      have := List.length_filter_le (fun x => decide (at' c x = x)) (List.range c.length)
      rw [List.length_range] at this
      exact this
    rw [C.canon.len] at h1
    exact Nat.le_trans h1 S.le
  · unfold quot at hr
    obtain ⟨x, hx, rfl⟩ := List.mem_map.mp hr
    refine ⟨by rw [List.length_map, quot_len S C], fun z hz => ?_⟩
    obtain ⟨y, hy, rfl⟩ := List.mem_map.mp hz
    rw [quot_len S C]
    have ax := mem_heads.mp hx
    have ay := mem_heads.mp hy
    rw [C.canon.len] at ax ay
    exact (num_lt S C (S.mul_lt ax.1 ay.1)).1
theorem quot_assoc (A : Assoc t) : Assoc (quot t c) := fun i j k hi hj hk => by
  rw [quot_len S C] at hi hj hk
  obtain ⟨a1, _⟩ := head_lt S C hi
  obtain ⟨b1, _⟩ := head_lt S C hj
  obtain ⟨c1, _⟩ := head_lt S C hk
  rw [← num_head S C hi, ← num_head S C hj, ← num_head S C hk, ← num_mul S C a1 b1, ← num_mul S C b1 c1, ← num_mul S C (S.mul_lt a1 b1) c1, ← num_mul S C a1 (S.mul_lt b1 c1), A _ _ _ a1 b1 c1]
end
theorem len_of_iff {α : Type} {l m : List α} (h1 : l.Nodup) (h2 : m.Nodup) (h : ∀ x, x ∈ l ↔ x ∈ m) : l.length = m.length := ((List.perm_ext_iff_of_nodup h1 h2).mpr h).length_eq
/-- the homomorphisms of a quotient are those that its congruence refines -/
theorem quot_homs {t b : List (List Nat)} {c : List Nat} (S : Sq t) (Sb : Sq b) (C : IsCong t c) : (homsL (quot t c) b).length = ((homsL t b).filter fun f => refB c (ker f)).length := by
  have pull : ∀ g : List Nat, ∀ x, x < t.length → at' ((List.range t.length).map fun x => at' g (at' (numbers c) x)) x = at' g (at' (numbers c) x) := fun g x hx => by
    rw [at_map (by rw [List.length_range]; exact hx), at_range hx]
  have inj : ∀ g ∈ homsL (quot t c) b, ∀ g' ∈ homsL (quot t c) b, ((List.range t.length).map fun x => at' g (at' (numbers c) x)) = ((List.range t.length).map fun x => at' g' (at' (numbers c) x)) → g = g' := fun g hg g' hg' e => by
    have G := mem_homsL.mp hg
    have G' := mem_homsL.mp hg'
    refine ext_at (G.len.trans G'.len.symm) fun i hi => ?_
    rw [G.len, quot_len S C] at hi
    obtain ⟨h1, _⟩ := head_lt S C hi
    have q1 := pull g _ h1
    have q2 := pull g' _ h1
    rw [num_head S C hi] at q1 q2
    rw [← q1, ← q2, e]
  have nd : ((homsL (quot t c) b).map fun g => (List.range t.length).map fun x => at' g (at' (numbers c) x)).Nodup := by
    unfold List.Nodup
    rw [List.pairwise_map]
    exact List.Pairwise.imp_of_mem (fun {g g'} hg hg' h e => h (inj g hg g' hg' e)) (homsL_nodup _ _)
  rw [← len_of_iff nd ((homsL_nodup t b).filter _) fun f => ?_, List.length_map]
  rw [List.mem_map, List.mem_filter]
  constructor
  · rintro ⟨g, hg, rfl⟩
    have G := mem_homsL.mp hg
    have hl : ((List.range t.length).map fun x => at' g (at' (numbers c) x)).length = t.length := by rw [List.length_map, List.length_range]
    refine ⟨mem_homsL.mpr ⟨hl, fun x hx => ?_, fun x y hx hy => ?_⟩, (refB_iff C.canon).mpr fun u v hu hv e => ?_⟩
    · rw [pull g x hx]
      exact G.lt _ (by rw [quot_len S C]; exact (num_lt S C hx).1)
    · rw [pull g _ (S.mul_lt hx hy), pull g x hx, pull g y hy, num_mul S C hx hy]
      exact G.keeps _ _ (by rw [quot_len S C]; exact (num_lt S C hx).1) (by rw [quot_len S C]; exact (num_lt S C hy).1)
    · rw [ker_rel (by rw [hl]; exact hu) (by rw [hl]; exact hv), pull g u hu, pull g v hv, (num_rel S C hu hv).mpr e]
  · rintro ⟨hf, hr⟩
    have F := mem_homsL.mp hf
    have hle := (refB_iff C.canon).mp hr
    have same : ∀ u v, u < t.length → v < t.length → at' c u = at' c v → at' f u = at' f v := fun u v hu hv e => (ker_rel (by rw [F.len]; exact hu) (by rw [F.len]; exact hv)).mp (hle u v hu hv e)
    have gat : ∀ i, i < (heads c).length → at' ((heads c).map (at' f)) i = at' f (at' (heads c) i) := fun i hi => at_map hi
    have hnum : ∀ x, x < t.length → at' f (at' (heads c) (at' (numbers c) x)) = at' f x := fun x hx => by
      rw [(num_lt S C hx).2]
      exact same _ _ (C.canon.lt hx) hx (C.canon.fix x hx)
    refine ⟨(heads c).map (at' f), mem_homsL.mpr ⟨by rw [List.length_map, quot_len S C], fun i hi => ?_, fun i j hi hj => ?_⟩, ?_⟩
    · rw [quot_len S C] at hi
      rw [gat i hi]
      exact F.lt _ (head_lt S C hi).1
    · rw [quot_len S C] at hi hj
      have a1 := (head_lt S C hi).1
      have b1 := (head_lt S C hj).1
      have m1 := S.mul_lt a1 b1
      rw [quot_mul S C hi hj, gat _ (num_lt S C m1).1, gat i hi, gat j hj, hnum _ m1, F.keeps _ _ a1 b1]
    · refine ext_at (by rw [List.length_map, List.length_range, F.len]) fun x hx => ?_
      rw [List.length_map, List.length_range] at hx
      rw [pull _ x hx, gat _ (num_lt S C hx).1, hnum x hx]

/-! ### the Moebius sum -/
def isum (l : List Int) : Int := l.foldr (· + ·) 0
theorem isum_cons (a : Int) (l : List Int) : isum (a :: l) = a + isum l := rfl
theorem isum_append : ∀ (l m : List Int), isum (l ++ m) = isum l + isum m
  | [], m => by simp [isum]
  | a :: l, m => by
    rw [List.cons_append, isum_cons, isum_cons, isum_append l m]
    omega
theorem isum_map_add {α : Type} (f g : α → Int) : ∀ l : List α, isum (l.map fun a => f a + g a) = isum (l.map f) + isum (l.map g)
  | [] => rfl
  | a :: l => by
    rw [List.map_cons, List.map_cons, List.map_cons, isum_cons, isum_cons, isum_cons, isum_map_add f g l]
    omega
theorem isum_congr {α : Type} {f g : α → Int} : ∀ {l : List α}, (∀ a ∈ l, f a = g a) → isum (l.map f) = isum (l.map g)
  | [], _ => rfl
  | a :: l, h => by
    rw [List.map_cons, List.map_cons, isum_cons, isum_cons, h a List.mem_cons_self, isum_congr fun b hb => h b (List.mem_cons_of_mem _ hb)]
theorem isum_zero {α : Type} : ∀ l : List α, isum (l.map fun _ => (0 : Int)) = 0
  | [] => rfl
  | a :: l => by
    rw [List.map_cons, isum_cons, isum_zero l]
    rfl
def ati (m : List Int) (i : Nat) : Int := m.getD i 0
def rowAt (rows : List (List Nat)) (i : Nat) : List Nat := rows.getD i []
structure MoebOk (n : Nat) (rows : List (List Nat)) (mu : List Int) : Prop where
  len : mu.length = rows.length
  sum : ∀ j, j < rows.length → isum ((List.range rows.length).map fun k => if refB (rowAt rows k) (rowAt rows j) = true then ati mu k else 0) = if rowAt rows j = List.range n then 1 else 0
/-- the one-to-one homomorphisms by the congruences -/
theorem moeb_count {t b : List (List Nat)} {mu : List Int} (S : Sq t) (Sb : Sq b) (M : MoebOk t.length (congs t) mu) :
    isum ((List.range (congs t).length).map fun i => ati mu i * ((homsL (quot t (rowAt (congs t) i)) b).length : Int)) = (((homsL t b).filter fun f => decide (ker f = List.range t.length)).length : Int) := by
  have inC : ∀ i, i < (congs t).length → IsCong t (rowAt (congs t) i) := fun i hi => by
    have e : rowAt (congs t) i = (congs t)[i] := by
      unfold rowAt
      rw [List.getD_eq_getElem?_getD, List.getElem?_eq_getElem hi]
      rfl
    rw [e]
    exact mem_congs.mp (List.getElem_mem hi)
  have step : ∀ Hs : List (List Nat), (∀ f ∈ Hs, IsHom t b f) →
      isum ((List.range (congs t).length).map fun i => ati mu i * ((Hs.filter fun f => refB (rowAt (congs t) i) (ker f)).length : Int)) = ((Hs.filter fun f => decide (ker f = List.range t.length)).length : Int) := by
    intro Hs
    induction Hs with
    | nil =>
      intro _
      have e : isum ((List.range (congs t).length).map fun i => ati mu i * (((([] : List (List Nat)).filter fun f => refB (rowAt (congs t) i) (ker f)).length : Nat) : Int)) = isum ((List.range (congs t).length).map fun _ => (0 : Int)) :=
        isum_congr fun i _ => by simp
      rw [e, isum_zero]
      rfl
    | cons f Hs ih =>
      intro hh
      have ih' := ih fun g hg => hh g (List.mem_cons_of_mem _ hg)
      have hk : ker f ∈ congs t := mem_congs.mpr (ker_cong S (hh f List.mem_cons_self))
      obtain ⟨j, hj, ej⟩ := List.mem_iff_getElem.mp hk
      have er : rowAt (congs t) j = ker f := by
        unfold rowAt
        rw [List.getD_eq_getElem?_getD, List.getElem?_eq_getElem hj, ← ej]
        rfl
      have ms := M.sum j hj
      rw [er] at ms
      have e : isum ((List.range (congs t).length).map fun i => ati mu i * (((f :: Hs).filter fun f => refB (rowAt (congs t) i) (ker f)).length : Int)) =
          isum ((List.range (congs t).length).map fun i => (if refB (rowAt (congs t) i) (ker f) = true then ati mu i else 0) + ati mu i * ((Hs.filter fun f => refB (rowAt (congs t) i) (ker f)).length : Int)) := by
        refine isum_congr fun i _ => ?_
        rw [List.filter_cons]
        by_cases q : refB (rowAt (congs t) i) (ker f) = true
        · rw [if_pos q, if_pos q, List.length_cons, Int.natCast_add, Int.mul_add]
          simp
          omega
        · rw [if_neg q, if_neg q]
          omega
      rw [e, isum_map_add, ms, ih', List.filter_cons]
      by_cases q : ker f = List.range t.length
      · rw [if_pos q, if_pos (decide_eq_true q), List.length_cons, Int.natCast_add]
        omega
      · rw [if_neg q, if_neg (by rw [decide_eq_false q]; decide)]
        omega
  rw [← step (homsL t b) fun f hf => mem_homsL.mp hf]
  refine isum_congr fun i hi => ?_
  rw [quot_homs S Sb (inC i (List.mem_range.mp hi))]
end M7
end
section
set_option linter.all false
set_option maxRecDepth 100000
/-! the walk over the homomorphisms: generators, extensions, how many there are -/
namespace M7

abbrev Tr := Nat × Nat × Nat
abbrev Step := Nat × List Nat × List Tr
/-- the products that lead to new elements, one behind another -/
def MadeOk (t : List (List Nat)) : List Nat → List Tr → Prop
  | _, [] => True
  | K, (p, l, r) :: md => p = mul t l r ∧ l ∈ K ∧ r ∈ K ∧ p ∉ K ∧ MadeOk t (K ++ [p]) md
theorem MadeOk.snoc {t : List (List Nat)} : ∀ {md : List Tr} {K : List Nat} {p l r : Nat}, MadeOk t K md → p = mul t l r → l ∈ K ++ md.map (·.1) → r ∈ K ++ md.map (·.1) → p ∉ K ++ md.map (·.1) → MadeOk t K (md ++ [(p, l, r)])
  | [], K, p, l, r, _, h1, h2, h3, h4 => by
    rw [List.map_nil, List.append_nil] at h2 h3 h4
    exact ⟨h1, h2, h3, h4, trivial⟩
  | (p', l', r') :: md, K, p, l, r, ⟨a1, a2, a3, a4, a5⟩, h1, h2, h3, h4 => by
    have e : K ++ ((p', l', r') :: md).map (·.1) = (K ++ [p']) ++ md.map (·.1) := by simp
    rw [e] at h2 h3 h4
    exact ⟨a1, a2, a3, a4, a5.snoc h1 h2 h3 h4⟩
structure StepOk (t : List (List Nat)) (K0 : List Nat) (st : Step) : Prop where
  new : st.1 ∉ K0
  lt : st.1 < t.length
  known : st.2.1 = (K0 ++ [st.1]) ++ st.2.2.map (·.1)
  made : MadeOk t (K0 ++ [st.1]) st.2.2
  all : ∀ k ∈ st.2.1, k < t.length
  closed : ∀ l ∈ st.2.1, ∀ r ∈ st.2.1, mul t l r ∈ st.2.1
def StepsOk (t : List (List Nat)) : List Nat → List Step → Prop
  | K0, [] => ∀ x, x < t.length → x ∈ K0
  | K0, st :: rest => StepOk t K0 st ∧ StepsOk t st.2.1 rest

def mulI (b : List (List Nat)) (x y : Int) : Int := (mul b x.toNat y.toNat : Int)
def extF (b : List (List Nat)) (md : List Tr) (f : List Int) : List Int := md.foldl (fun f m => f.set m.1 (mulI b (ati f m.2.1) (ati f m.2.2))) f
def okF (t b : List (List Nat)) (K : List Nat) (f : List Int) : Bool := K.all fun l => K.all fun r => decide (ati f (mul t l r) = mulI b (ati f l) (ati f r))
def ext (t b : List (List Nat)) (im : List Int) (st : Step) (y : Nat) : Option (List Int) :=
  if okF t b st.2.1 (extF b st.2.2 (im.set st.1 (y : Int))) = true then some (extF b st.2.2 (im.set st.1 (y : Int))) else none
def outs (t b : List (List Nat)) : List Step → List Int → List (List Int)
  | [], im => [im]
  | st :: rest, im => (List.range b.length).flatMap fun y => match ext t b im st y with
    | none => []
    | some f => outs t b rest f
def cost (t b : List (List Nat)) : List Step → List Int → Nat
  | [], _ => 1
  | st :: rest, im => 1 + ((List.range b.length).map fun y => match ext t b im st y with
    | none => 0
    | some f => cost t b rest f).sum

theorem ati_set {f : List Int} {p : Nat} {v : Int} (h : p < f.length) (k : Nat) : ati (f.set p v) k = if k = p then v else ati f k := by
  unfold ati
  rw [List.getD_eq_getElem?_getD, List.getD_eq_getElem?_getD, List.getElem?_set]
  by_cases e : p = k
  · subst e
    rw [if_pos rfl, if_pos rfl, if_pos h]
    rfl
  · rw [if_neg e, if_neg (fun q => e q.symm)]
theorem ne_mem {K : List Nat} {k p : Nat} (h : k ∈ K) (h' : p ∉ K) : ¬ k = p := fun e => h' (by rw [← e]; exact h)
theorem sum_zeros : ∀ m : Nat, ((List.range m).map fun _ => 0).sum = 0
  | 0 => rfl
  | m + 1 => by rw [List.range_succ, List.map_append, List.sum_append, sum_zeros m]; rfl
theorem extF_len (b : List (List Nat)) : ∀ (md : List Tr) (f : List Int), (extF b md f).length = f.length
  | [], _ => rfl
  | m :: md, f => by
    show (extF b md (f.set m.1 _)).length = _
    rw [extF_len b md, List.length_set]
/-- what was known stays -/
theorem extF_old {t b : List (List Nat)} : ∀ (md : List Tr) (K : List Nat) (f : List Int), MadeOk t K md → (∀ m ∈ md, m.1 < f.length) → ∀ k ∈ K, ati (extF b md f) k = ati f k
  | [], _, _, _, _, _, _ => rfl
  | (p, l, r) :: md, K, f, ⟨h1, h2, h3, h4, h5⟩, hp, k, hk => by
    show ati (extF b md (f.set p (mulI b (ati f l) (ati f r)))) k = _
    rw [extF_old md (K ++ [p]) _ h5 (fun m hm => by rw [List.length_set]; exact hp m (List.mem_cons_of_mem _ hm)) k (List.mem_append_left _ hk), ati_set (hp _ List.mem_cons_self), if_neg (ne_mem hk h4)]
/-- a homomorphism that agrees on the known ones agrees on those made -/
theorem extF_agree {t b : List (List Nat)} {h : List Nat} (Hh : IsHom t b h) : ∀ (md : List Tr) (K : List Nat) (f : List Int), MadeOk t K md → (∀ m ∈ md, m.1 < f.length) → (∀ k ∈ K, k < t.length) → (∀ m ∈ md, m.1 < t.length) →
    (∀ k ∈ K, (at' h k : Int) = ati f k) → ∀ k ∈ K ++ md.map (·.1), (at' h k : Int) = ati (extF b md f) k
  | [], K, f, _, _, _, _, ha, k, hk => by
    rw [List.map_nil, List.append_nil] at hk
    exact ha k hk
  | (p, l, r) :: md, K, f, ⟨h1, h2, h3, h4, h5⟩, hp, hK, hP, ha, k, hk => by
    show (at' h k : Int) = ati (extF b md (f.set p (mulI b (ati f l) (ati f r)))) k
    have e : K ++ ((p, l, r) :: md).map (·.1) = (K ++ [p]) ++ md.map (·.1) := by simp
    rw [e] at hk
    refine extF_agree Hh md (K ++ [p]) _ h5 (fun m hm => by rw [List.length_set]; exact hp m (List.mem_cons_of_mem _ hm)) (fun k hk => ?_) (fun m hm => hP m (List.mem_cons_of_mem _ hm)) (fun k hk => ?_) k hk
    · rcases List.mem_append.mp hk with q | q
      · exact hK k q
      · rw [List.mem_singleton.mp q]
        exact hP (p, l, r) List.mem_cons_self
    · rw [ati_set (hp _ List.mem_cons_self)]
      rcases List.mem_append.mp hk with q | q
      · rw [if_neg (ne_mem q h4)]
        exact ha k q
      · rw [if_pos (List.mem_singleton.mp q), List.mem_singleton.mp q, ← ha l h2, ← ha r h3, h1, Hh.keeps l r (hK l h2) (hK r h3)]
        unfold mulI
        rw [Int.toNat_natCast, Int.toNat_natCast]
/-- a homomorphism agrees with f on K -/
def agr (K : List Nat) (f : List Int) (h : List Nat) : Bool := K.all fun k => decide ((at' h k : Int) = ati f k)
theorem agr_iff {K : List Nat} {f : List Int} {h : List Nat} : agr K f h = true ↔ ∀ k ∈ K, (at' h k : Int) = ati f k := by
  unfold agr
  simp only [List.all_eq_true, decide_eq_true_eq]
/-- f is a homomorphism on K -/
structure PHom (t b : List (List Nat)) (K : List Nat) (f : List Int) : Prop where
  len : f.length = t.length
  all : ∀ k ∈ K, k < t.length ∧ 0 ≤ ati f k ∧ ati f k < (b.length : Int)
  keeps : ∀ l ∈ K, ∀ r ∈ K, ati f (mul t l r) = mulI b (ati f l) (ati f r)

theorem made_lt {t b : List (List Nat)} (Sb : Sq b) : ∀ (md : List Tr) (K : List Nat) (f : List Int), MadeOk t K md → (∀ m ∈ md, m.1 < f.length) → (∀ k ∈ K, 0 ≤ ati f k ∧ ati f k < (b.length : Int)) → ∀ k ∈ K ++ md.map (·.1), 0 ≤ ati (extF b md f) k ∧ ati (extF b md f) k < (b.length : Int)
  | [], K, f, _, _, ha, k, hk => by
    rw [List.map_nil, List.append_nil] at hk
    exact ha k hk
  | (p, l, r) :: md, K, f, ⟨h1, h2, h3, h4, h5⟩, hp, ha, k, hk => by
    show 0 ≤ ati (extF b md (f.set p (mulI b (ati f l) (ati f r)))) k ∧ ati (extF b md (f.set p (mulI b (ati f l) (ati f r)))) k < _
    have e : K ++ ((p, l, r) :: md).map (·.1) = (K ++ [p]) ++ md.map (·.1) := by simp
    rw [e] at hk
    refine made_lt Sb md (K ++ [p]) _ h5 (fun m hm => by rw [List.length_set]; exact hp m (List.mem_cons_of_mem _ hm)) (fun k hk => ?_) k hk
    rw [ati_set (hp _ List.mem_cons_self)]
    rcases List.mem_append.mp hk with q | q
    · rw [if_neg (ne_mem q h4)]
      exact ha k q
    · rw [if_pos (List.mem_singleton.mp q)]
      have a1 := ha l h2
      have a2 := ha r h3
      have := Sb.mul_lt (x := (ati f l).toNat) (y := (ati f r).toNat) (by omega) (by omega)
      unfold mulI
      omega
theorem len_split {α : Type} {H : List α} {v : α → Nat} : ∀ (m : Nat), (∀ f ∈ H, v f < m) → H.length = ((List.range m).map fun y => (H.filter fun f => decide (v f = y)).length).sum := by
  intro m
  induction H with
  | nil =>
    intro _
    have : ((List.range m).map fun y => (([] : List α).filter fun f => decide (v f = y)).length) = (List.range m).map fun _ => 0 := List.map_congr_left fun y _ => rfl
    rw [this, sum_zeros]
    rfl
  | cons f H ih =>
    intro h
    have hf := h f List.mem_cons_self
    have ih' := ih fun g hg => h g (List.mem_cons_of_mem _ hg)
    have e : ∀ m', ((List.range m').map fun y => ((f :: H).filter fun f => decide (v f = y)).length).sum = ((List.range m').map fun y => (H.filter fun f => decide (v f = y)).length).sum + if v f < m' then 1 else 0 := by
      intro m'
      induction m' with
      | zero => rfl
      | succ m' ihm =>
        rw [List.range_succ, List.map_append, List.map_append, List.sum_append, List.sum_append, ihm]
        simp only [List.map_cons, List.map_nil, List.sum_cons, List.sum_nil, List.filter_cons]
        by_cases q : v f = m'
        · simp [q]
          omega
        · simp [q]
          by_cases q2 : v f < m'
          · rw [if_pos q2, if_pos (by omega)]; omega
          · rw [if_neg q2, if_neg (by omega)]; omega
    rw [e, if_pos hf, List.length_cons, ← ih']
theorem outs_count {t b : List (List Nat)} (S : Sq t) (Sb : Sq b) : ∀ (steps : List Step) (K : List Nat) (im : List Int), StepsOk t K steps → PHom t b K im → (outs t b steps im).length = ((homsL t b).filter fun h => agr K im h).length
  | [], K, im, hs, P => by
    show 1 = _
    have hat : ∀ x, x < t.length → at' ((List.range t.length).map fun x => (ati im x).toNat) x = (ati im x).toNat := fun x hx => by rw [at_map (by rw [List.length_range]; exact hx), at_range hx]
    have one : [((List.range t.length).map fun x => (ati im x).toNat)].length = ((homsL t b).filter fun h => agr K im h).length := by
      refine len_of_iff (List.nodup_cons.mpr ⟨by simp, List.nodup_nil⟩) ((homsL_nodup t b).filter _) fun h => ?_
      rw [List.mem_singleton, List.mem_filter, agr_iff]
      constructor
      · rintro rfl
        refine ⟨mem_homsL.mpr ⟨by rw [List.length_map, List.length_range], fun x hx => ?_, fun x y hx hy => ?_⟩, fun k hk => ?_⟩
        · rw [hat x hx]
          have := P.all x (hs x hx)
          omega
        · rw [hat _ (S.mul_lt hx hy), hat x hx, hat y hy, P.keeps x (hs x hx) y (hs y hy)]
          unfold mulI
          rw [Int.toNat_natCast]
        · have := P.all k hk
          rw [hat k this.1]
          omega
      · rintro ⟨hh, ha⟩
        have Hh := mem_homsL.mp hh
        refine ext_at (by rw [List.length_map, List.length_range, Hh.len]) fun x hx => ?_
        rw [Hh.len] at hx
        have := ha x (hs x hx)
        rw [hat x hx]
        omega
    exact one
  | st :: rest, K, im, ⟨h1, h2⟩, P => by
    have hx := h1.lt
    have hset : ∀ y : Nat, (im.set st.1 (y : Int)).length = t.length := fun y => by rw [List.length_set, P.len]
    have hknown : ∀ k, k ∈ st.2.1 ↔ k ∈ (K ++ [st.1]) ++ st.2.2.map (·.1) := fun k => by rw [h1.known]
    have hmlt : ∀ m ∈ st.2.2, m.1 < t.length := fun m hm => h1.all _ ((hknown _).mpr (List.mem_append_right _ (List.mem_map.mpr ⟨m, hm, rfl⟩)))
    have hmf : ∀ y : Nat, ∀ m ∈ st.2.2, m.1 < (im.set st.1 (y : Int)).length := fun y m hm => by rw [hset]; exact hmlt m hm
    have hK : ∀ k ∈ K ++ [st.1], k < t.length := fun k hk => h1.all _ ((hknown _).mpr (List.mem_append_left _ hk))
    have base : ∀ (y : Nat) (h : List Nat), (∀ k ∈ K ++ [st.1], (at' h k : Int) = ati (im.set st.1 (y : Int)) k) ↔ (∀ k ∈ K, (at' h k : Int) = ati im k) ∧ at' h st.1 = y := fun y h => by
      constructor
      · intro q
        refine ⟨fun k hk => ?_, ?_⟩
        · have z := q k (List.mem_append_left _ hk)
          rw [ati_set (by rw [P.len]; exact hx), if_neg (ne_mem hk h1.new)] at z
          exact z
        · have z := q st.1 (List.mem_append_right _ (List.mem_singleton.mpr rfl))
          rw [ati_set (by rw [P.len]; exact hx), if_pos rfl] at z
          exact Int.ofNat_inj.mp z
      · rintro ⟨q1, q2⟩ k hk
        rw [ati_set (by rw [P.len]; exact hx)]
        rcases List.mem_append.mp hk with z | z
        · rw [if_neg (ne_mem z h1.new)]
          exact q1 k z
        · rw [List.mem_singleton.mp z, if_pos rfl, q2]
    have agrees : ∀ (y : Nat) (h : List Nat), IsHom t b h → ((∀ k ∈ st.2.1, (at' h k : Int) = ati (extF b st.2.2 (im.set st.1 (y : Int))) k) ↔ (∀ k ∈ K, (at' h k : Int) = ati im k) ∧ at' h st.1 = y) := fun y h Hh => by
      rw [← base y h]
      constructor
      · intro q k hk
        rw [q k ((hknown _).mpr (List.mem_append_left _ hk)), extF_old st.2.2 (K ++ [st.1]) _ h1.made (hmf y) k hk]
      · intro q k hk
        exact extF_agree Hh st.2.2 (K ++ [st.1]) _ h1.made (hmf y) hK hmlt q k ((hknown _).mp hk)
    have each : ∀ y, y < b.length → (match ext t b im st y with | none => [] | some f => outs t b rest f).length = (((homsL t b).filter fun h => agr K im h).filter fun h => decide (at' h st.1 = y)).length := fun y hy => by
      unfold ext
      by_cases ok : okF t b st.2.1 (extF b st.2.2 (im.set st.1 (y : Int))) = true
      · rw [if_pos ok]
        show (outs t b rest (extF b st.2.2 (im.set st.1 (y : Int)))).length = _
        have ok' : ∀ l ∈ st.2.1, ∀ r ∈ st.2.1, ati (extF b st.2.2 (im.set st.1 (y : Int))) (mul t l r) = mulI b (ati (extF b st.2.2 (im.set st.1 (y : Int))) l) (ati (extF b st.2.2 (im.set st.1 (y : Int))) r) := by
          unfold okF at ok
          simp only [List.all_eq_true, decide_eq_true_eq] at ok
          exact ok
        rw [outs_count S Sb rest st.2.1 _ h2 ⟨by rw [extF_len, hset], fun k hk => ⟨h1.all k hk, ?_⟩, ok'⟩]
        · refine len_of_iff ((homsL_nodup t b).filter _) (((homsL_nodup t b).filter _).filter _) fun h => ?_
          rw [List.mem_filter, List.mem_filter, List.mem_filter, agr_iff, agr_iff, decide_eq_true_eq]
          constructor
          · rintro ⟨q1, q2⟩
            obtain ⟨q3, q4⟩ := (agrees y h (mem_homsL.mp q1)).mp q2
            exact ⟨⟨q1, q3⟩, q4⟩
          · rintro ⟨⟨q1, q3⟩, q4⟩
            exact ⟨q1, (agrees y h (mem_homsL.mp q1)).mpr ⟨q3, q4⟩⟩
        · refine made_lt Sb st.2.2 (K ++ [st.1]) _ h1.made (hmf y) (fun k hk => ?_) k ((hknown _).mp hk)
          rw [ati_set (by rw [P.len]; exact hx)]
          rcases List.mem_append.mp hk with z | z
          · rw [if_neg (ne_mem z h1.new)]
            exact (P.all k z).2
          · rw [if_pos (List.mem_singleton.mp z)]
            omega
      · rw [if_neg ok]
        show 0 = _
        have none : ((homsL t b).filter fun h => agr K im h).filter (fun h => decide (at' h st.1 = y)) = [] := by
          rw [List.filter_eq_nil_iff]
          intro h hh
          rw [List.mem_filter, agr_iff] at hh
          intro q
          have q := of_decide_eq_true q
          have Hh := mem_homsL.mp hh.1
          have ag := (agrees y h Hh).mpr ⟨hh.2, q⟩
          apply ok
          unfold okF
          simp only [List.all_eq_true, decide_eq_true_eq]
          intro l hl r hr
          rw [← ag _ (h1.closed l hl r hr), ← ag l hl, ← ag r hr, Hh.keeps l r (h1.all l hl) (h1.all r hr)]
          unfold mulI
          rw [Int.toNat_natCast, Int.toNat_natCast]
        rw [none]
        rfl
    show ((List.range b.length).flatMap fun y => match ext t b im st y with | none => [] | some f => outs t b rest f).length = _
    rw [List.length_flatMap, len_split (v := fun h => at' h st.1) b.length fun h hh => (mem_homsL.mp (List.mem_filter.mp hh).1).lt _ hx]
    congr 1
    exact List.map_congr_left fun y hy => each y (List.mem_range.mp hy)
/-- from the start -/
theorem outs_all {t b : List (List Nat)} (S : Sq t) (Sb : Sq b) {steps : List Step} (h : StepsOk t [] steps) : (outs t b steps (List.replicate t.length (-1))).length = (homsL t b).length := by
  rw [outs_count S Sb steps [] _ h ⟨List.length_replicate .., (fun k hk => by cases hk), (fun l hl => by cases hl)⟩]
  congr 1
  exact List.filter_eq_self.mpr fun h _ => rfl
theorem rows_len (n : Nat) : ∀ k, (rowsOf n k).length = n ^ k
  | 0 => rfl
  | k + 1 => by
    unfold rowsOf
    rw [List.length_flatMap]
    have : ((rowsOf n k).map fun r => ((List.range n).map fun x => r ++ [x]).length) = (rowsOf n k).map fun _ => n := List.map_congr_left fun r _ => by rw [List.length_map, List.length_range]
    rw [this]
    have e : ∀ l : List (List Nat), (l.map fun _ => n).sum = l.length * n := fun l => by
      induction l with
      | nil => simp
      | cons a l ih => rw [List.map_cons, List.sum_cons, ih, List.length_cons, Nat.add_mul]; omega
    rw [e, rows_len n k, Nat.pow_succ]
theorem homs_le {a b : List (List Nat)} : (homsL a b).length ≤ b.length ^ a.length := by
  unfold homsL
  have := List.length_filter_le (keepsB a b) (rowsOf b.length a.length)
  rw [rows_len] at this
  exact this
end M7
end
section
set_option linter.all false
set_option maxRecDepth 100000
/-! the tables that the law draws are associative -/
namespace M7

structure Ok4 (t : List (List Nat)) : Prop where
  sq : Sq t
  assoc : Assoc t
  le4 : t.length ≤ 4
def okB (t : List (List Nat)) : Bool := decide (0 < t.length) && (decide (t.length ≤ 4) && ((t.all fun r => decide (r.length = t.length) && r.all fun z => decide (z < t.length)) &&
  (List.range t.length).all fun x => (List.range t.length).all fun y => (List.range t.length).all fun z => decide (mul t (mul t x y) z = mul t x (mul t y z))))
theorem okB_ok {t : List (List Nat)} (h : okB t = true) : Ok4 t := by
  unfold okB at h
  simp only [Bool.and_eq_true, List.all_eq_true, decide_eq_true_eq, List.mem_range] at h
  obtain ⟨h1, h2, h3, h4⟩ := h
  exact ⟨⟨h1, Nat.le_trans h2 (by decide), fun r hr => h3 r hr⟩, fun x y z hx hy hz => h4 x hx y hy z hz, h2⟩
/-- a square table from a function -/
def tab (n : Nat) (f : Nat → Nat → Nat) : List (List Nat) := (List.range n).map fun x => (List.range n).map fun y => f x y
theorem tab_len (n : Nat) (f : Nat → Nat → Nat) : (tab n f).length = n := by
  unfold tab
  rw [List.length_map, List.length_range]
theorem tab_mul {n : Nat} {f : Nat → Nat → Nat} {x y : Nat} (hx : x < n) (hy : y < n) : mul (tab n f) x y = f x y := by
  unfold mul
  rw [row_getD (by rw [tab_len]; exact hx)]
  unfold tab
  rw [List.getElem_map, List.getElem_range]
  show at' _ y = _
  rw [at_map (by rw [List.length_range]; exact hy), at_range hy]
theorem tab_ok {n : Nat} {f : Nat → Nat → Nat} (h0 : 0 < n) (h4 : n ≤ 4) (hl : ∀ x y, x < n → y < n → f x y < n) (ha : ∀ x y z, x < n → y < n → z < n → f (f x y) z = f x (f y z)) : Ok4 (tab n f) := by
  refine ⟨⟨by rw [tab_len]; exact h0, by rw [tab_len]; omega, fun r hr => ?_⟩, fun x y z hx hy hz => ?_, by rw [tab_len]; exact h4⟩
  · unfold tab at hr
    obtain ⟨x, hx, rfl⟩ := List.mem_map.mp hr
    rw [tab_len]
    refine ⟨by rw [List.length_map, List.length_range], fun z hz => ?_⟩
    obtain ⟨y, hy, rfl⟩ := List.mem_map.mp hz
    exact hl x y (List.mem_range.mp hx) (List.mem_range.mp hy)
  · rw [tab_len] at hx hy hz
    rw [tab_mul hx hy, tab_mul (hl x y hx hy) hz, tab_mul hy hz, tab_mul hx (hl y z hy hz), ha x y z hx hy hz]
/-- a square table is that of its own function -/
theorem tab_self {t : List (List Nat)} (h : ∀ r ∈ t, r.length = t.length) : t = tab t.length (mul t) := by
  apply List.ext_getElem (by rw [tab_len])
  intro x h1 h2
  have e : (tab t.length (mul t))[x]'h2 = (List.range t.length).map fun y => mul t x y := by
    simp only [tab, List.getElem_map, List.getElem_range]
  rw [e]
  refine ext_at (by rw [List.length_map, List.length_range]; exact h _ (List.getElem_mem h1)) fun y hy => ?_
  rw [h _ (List.getElem_mem h1)] at hy
  rw [at_map (by rw [List.length_range]; exact hy), at_range hy]
  unfold mul
  rw [row_getD h1]
  rfl
theorem left_ok {n : Nat} (h0 : 0 < n) (h4 : n ≤ 4) : Ok4 (tab n fun x _ => x) := tab_ok h0 h4 (fun x y hx _ => hx) fun x y z _ _ _ => rfl
theorem null_ok {n : Nat} (h0 : 0 < n) (h4 : n ≤ 4) : Ok4 (tab n fun _ _ => 0) := tab_ok h0 h4 (fun _ _ _ _ => h0) fun _ _ _ _ _ _ => rfl
theorem min_ok {n : Nat} (h0 : 0 < n) (h4 : n ≤ 4) : Ok4 (tab n fun x y => min x y) := tab_ok h0 h4 (fun x y hx hy => by omega) fun x y z _ _ _ => by omega
def monoF (n p x y : Nat) : Nat := (if x + y + 2 > n then (n + 1 - p) + (x + y + 2 - (n + 1 - p)) % p else x + y + 2) - 1
theorem mono_ok {n p : Nat} (h0 : 0 < n) (h4 : n ≤ 4) (p0 : 0 < p) (p4 : p ≤ n) : Ok4 (tab n (monoF n p)) := by
  have h : ∀ n, n < 5 → ∀ p, p < 5 → 0 < n → 0 < p → p ≤ n → okB (tab n (monoF n p)) = true := by decide
  exact okB_ok (h n (by omega) p (by omega) h0 p0 p4)

/-! ### made of others -/
theorem opp_ok {t : List (List Nat)} (O : Ok4 t) : Ok4 (tab t.length fun x y => mul t y x) :=
  tab_ok O.sq.pos O.le4 (fun x y hx hy => O.sq.mul_lt hy hx) fun x y z hx hy hz => (O.assoc z y x hz hy hx).symm
def zeF (t : List (List Nat)) (x y : Nat) : Nat := if x < t.length ∧ y < t.length then mul t x y else t.length
theorem zeF_in {t : List (List Nat)} {x y : Nat} (a : x < t.length) (b : y < t.length) : zeF t x y = mul t x y := if_pos ⟨a, b⟩
theorem zeF_l {t : List (List Nat)} {x y : Nat} (a : ¬ x < t.length) : zeF t x y = t.length := if_neg fun q => a q.1
theorem zeF_r {t : List (List Nat)} {x y : Nat} (a : ¬ y < t.length) : zeF t x y = t.length := if_neg fun q => a q.2
theorem zero_ok {t : List (List Nat)} (O : Ok4 t) (h : t.length < 4) : Ok4 (tab (t.length + 1) (zeF t)) := by
  refine tab_ok (by omega) h (fun x y hx hy => ?_) fun x y z hx hy hz => ?_
  · by_cases a : x < t.length
    · by_cases b : y < t.length
      · rw [zeF_in a b]
        exact Nat.lt_succ_of_lt (O.sq.mul_lt a b)
      · rw [zeF_r b]
        exact Nat.lt_succ_self _
    · rw [zeF_l a]
      exact Nat.lt_succ_self _
  · have nn : ¬ t.length < t.length := Nat.lt_irrefl _
    by_cases a : x < t.length
    · by_cases b : y < t.length
      · by_cases c : z < t.length
        · rw [zeF_in a b, zeF_in (O.sq.mul_lt a b) c, zeF_in b c, zeF_in a (O.sq.mul_lt b c)]
          exact O.assoc x y z a b c
        · rw [zeF_r c, zeF_r (x := y) c, zeF_r nn]
      · rw [zeF_r b, zeF_l nn, zeF_l b, zeF_r nn]
    · rw [zeF_l a, zeF_l nn, zeF_l a]
def unF (t : List (List Nat)) (x y : Nat) : Nat := if x = t.length then y else if y = t.length then x else mul t x y
theorem unF_l {t : List (List Nat)} {y : Nat} : unF t t.length y = y := if_pos rfl
theorem unF_r {t : List (List Nat)} {x : Nat} : unF t x t.length = x := by
  unfold unF
  by_cases a : x = t.length
  · rw [if_pos a, a]
  · rw [if_neg a, if_pos rfl]
theorem unF_in {t : List (List Nat)} {x y : Nat} (a : x < t.length) (b : y < t.length) : unF t x y = mul t x y := by
  unfold unF
  rw [if_neg (Nat.ne_of_lt a), if_neg (Nat.ne_of_lt b)]
theorem unit_ok {t : List (List Nat)} (O : Ok4 t) (h : t.length < 4) : Ok4 (tab (t.length + 1) (unF t)) := by
  have cs : ∀ {x : Nat}, x < t.length + 1 → x = t.length ∨ x < t.length := fun h => by omega
  refine tab_ok (by omega) h (fun x y hx hy => ?_) fun x y z hx hy hz => ?_
  · rcases cs hx with rfl | a
    · rw [unF_l]; exact hy
    · rcases cs hy with rfl | b
      · rw [unF_r]; exact hx
      · rw [unF_in a b]
        exact Nat.lt_succ_of_lt (O.sq.mul_lt a b)
  · rcases cs hx with rfl | a
    · rw [unF_l, unF_l]
    · rcases cs hy with rfl | b
      · rw [unF_r, unF_l]
      · rcases cs hz with rfl | c
        · rw [unF_r, unF_r]
        · rw [unF_in a b, unF_in (O.sq.mul_lt a b) c, unF_in b c, unF_in a (O.sq.mul_lt b c)]
          exact O.assoc x y z a b c
theorem prod_ok {t : List (List Nat)} (O : Ok4 t) (h : 2 * t.length ≤ 4) {s : Nat → Nat → Nat} (hs : ∀ a b, a < 2 → b < 2 → s a b < 2) (hsa : ∀ a b c, a < 2 → b < 2 → c < 2 → s (s a b) c = s a (s b c)) :
    Ok4 (tab (2 * t.length) fun x y => 2 * mul t (x / 2) (y / 2) + s (x % 2) (y % 2)) := by
  have hp := O.sq.pos
  refine tab_ok (by omega) h (fun x y hx hy => ?_) fun x y z hx hy hz => ?_
  · have a := O.sq.mul_lt (x := x / 2) (y := y / 2) (by omega) (by omega)
    have b := hs (x % 2) (y % 2) (by omega) (by omega)
    omega
  · have a1 := hs (x % 2) (y % 2) (by omega) (by omega)
    have a2 := hs (y % 2) (z % 2) (by omega) (by omega)
    have d1 : (2 * mul t (x / 2) (y / 2) + s (x % 2) (y % 2)) / 2 = mul t (x / 2) (y / 2) := by omega
    have d2 : (2 * mul t (x / 2) (y / 2) + s (x % 2) (y % 2)) % 2 = s (x % 2) (y % 2) := by omega
    have d3 : (2 * mul t (y / 2) (z / 2) + s (y % 2) (z % 2)) / 2 = mul t (y / 2) (z / 2) := by omega
    have d4 : (2 * mul t (y / 2) (z / 2) + s (y % 2) (z % 2)) % 2 = s (y % 2) (z % 2) := by omega
    rw [d1, d2, d3, d4, O.assoc _ _ _ (by omega) (by omega) (by omega), hsa _ _ _ (by omega) (by omega) (by omega)]
/-- renamed by an order of the elements -/
structure IsOrd (n : Nat) (o : List Nat) : Prop where
  len : o.length = n
  nd : o.Nodup
  lt : ∀ z ∈ o, z < n
theorem pigeon : ∀ {n : Nat} {l : List Nat}, l.Nodup → (∀ z ∈ l, z < n) → l.length = n → ∀ {i : Nat}, i < n → i ∈ l := fun {n l} nd lt len {i} hi => by
  refine Classical.byContradiction fun q => ?_
  have h1 : (i :: l).Nodup := List.nodup_cons.mpr ⟨q, nd⟩
  have h2 : ∀ z ∈ i :: l, z ∈ List.range n := fun z hz => by
    rcases List.mem_cons.mp hz with rfl | hz
    · exact List.mem_range.mpr hi
    · exact List.mem_range.mpr (lt z hz)
  have h3 := List.Nodup.length_le_of_subset h1 h2
  rw [List.length_cons, List.length_range, len] at h3
  omega
theorem IsOrd.onto {n : Nat} {o : List Nat} (O : IsOrd n o) {i : Nat} (h : i < n) : ∃ x, x < n ∧ at' o x = i := by
  obtain ⟨x, hx, e⟩ := mem_at (pigeon O.nd O.lt O.len h)
  rw [O.len] at hx
  exact ⟨x, hx, e⟩
theorem IsOrd.at_lt {n : Nat} {o : List Nat} (O : IsOrd n o) {x : Nat} (h : x < n) : at' o x < n := O.lt _ (at_mem (by rw [O.len]; exact h))
theorem IsOrd.inj {n : Nat} {o : List Nat} (O : IsOrd n o) {x y : Nat} (hx : x < n) (hy : y < n) (e : at' o x = at' o y) : x = y := by
  rw [at_eq (by rw [O.len]; exact hx), at_eq (by rw [O.len]; exact hy)] at e
  exact (List.getElem_inj O.nd).mp e
theorem ren_ok {t r : List (List Nat)} {o : List Nat} (T : Ok4 t) (O : IsOrd t.length o) (hl : r.length = t.length) (hr : ∀ q ∈ r, q.length = t.length) (hm : ∀ x y, x < t.length → y < t.length → mul r (at' o x) (at' o y) = at' o (mul t x y)) : Ok4 r := by
  have hlt : ∀ i j, i < t.length → j < t.length → mul r i j < t.length := fun i j hi hj => by
    obtain ⟨x, hx, rfl⟩ := O.onto hi
    obtain ⟨y, hy, rfl⟩ := O.onto hj
    rw [hm x y hx hy]
    exact O.at_lt (T.sq.mul_lt hx hy)
  have e := tab_self (t := r) fun q hq => by rw [hr q hq, hl]
  rw [e, hl]
  refine tab_ok T.sq.pos T.le4 hlt fun i j k hi hj hk => ?_
  obtain ⟨x, hx, rfl⟩ := O.onto hi
  obtain ⟨y, hy, rfl⟩ := O.onto hj
  obtain ⟨z, hz, rfl⟩ := O.onto hk
  rw [hm x y hx hy, hm _ z (T.sq.mul_lt hx hy) hz, hm y z hy hz, hm x _ hx (T.sq.mul_lt hy hz), T.assoc x y z hx hy hz]

/-! ### blocks -/
def b2n (b : Bool) : Nat := if b then 1 else 0
def cellN (rows : List (List Nat)) (j i : Nat) : Nat := (rows.getD j []).getD i 0
def cellB (rows : List (List Bool)) (j i : Nat) : Bool := (rows.getD j []).getD i false
def triF (a b g : Nat) (tw : List (List Nat)) (ho : List (List Bool)) (z : Bool) (x y : Nat) : Nat :=
  if x < a * b * g ∧ y < a * b * g then (if (z && cellB ho (x % b) (y / (g * b))) = true then a * b * g else (x / (g * b) * g + (x / b + cellN tw (x % b) (y / (g * b)) + y / b) % g) * b + y % b) else a * b * g
def triT (a b g : Nat) (tw : List (List Nat)) (ho : List (List Bool)) (z : Bool) : List (List Nat) := tab (a * b * g + b2n z) (triF a b g tw ho z)
structure Shape {α : Type} (p : α → Prop) (b a : Nat) (rows : List (List α)) : Prop where
  len : rows.length = b
  row : ∀ r ∈ rows, r.length = a ∧ ∀ z ∈ r, p z
theorem tri_ok {a b g : Nat} {tw : List (List Nat)} {ho : List (List Bool)} {z : Bool} (ha : 0 < a) (hb : 0 < b) (hg : 0 < g) (h : a * b * g ≤ 2) (T : Shape (fun v => v < g) b a tw) (Hs : Shape (fun _ => True) b a ho) : Ok4 (triT a b g tw ho z) := by
  have ha2 : a < 3 := by
    have : a * 1 ≤ a * (b * g) := Nat.mul_le_mul_left a (Nat.mul_pos hb hg)
    rw [← Nat.mul_assoc] at this
    omega
  have hb2 : b < 3 := by
    have : b * 1 ≤ b * (a * g) := Nat.mul_le_mul_left b (Nat.mul_pos ha hg)
    rw [← Nat.mul_assoc, Nat.mul_comm b a] at this
    omega
  have hg2 : g < 3 := by
    have : g * 1 ≤ g * (a * b) := Nat.mul_le_mul_left g (Nat.mul_pos ha hb)
    rw [Nat.mul_comm g (a * b)] at this
    omega
  have one : ∀ v, v < 2 → ∀ hh z : Bool, okB (triT 1 1 2 [[v]] [[hh]] z) = true := by decide
  have two : ∀ hh z : Bool, okB (triT 1 1 1 [[0]] [[hh]] z) = true := by decide
  have three : ∀ h1 h2 z : Bool, okB (triT 2 1 1 [[0, 0]] [[h1, h2]] z) = true := by decide
  have four : ∀ h1 h2 z : Bool, okB (triT 1 2 1 [[0], [0]] [[h1], [h2]] z) = true := by decide
  have l1 : ∀ {α : Type} {l : List α}, l.length = 1 → ∃ x, l = [x] := fun {α l} e => List.length_eq_one_iff.mp e
  have l2 : ∀ {α : Type} {l : List α}, l.length = 2 → ∃ x y, l = [x, y] := fun {α l} e => by
    match l, e with
    | [x, y], _ => exact ⟨x, y, rfl⟩
  have cases4 : (a = 1 ∧ b = 1 ∧ g = 1) ∨ (a = 1 ∧ b = 1 ∧ g = 2) ∨ (a = 2 ∧ b = 1 ∧ g = 1) ∨ (a = 1 ∧ b = 2 ∧ g = 1) := by
    have e1 : a = 1 ∨ a = 2 := by omega
    have e2 : b = 1 ∨ b = 2 := by omega
    have e3 : g = 1 ∨ g = 2 := by omega
    rcases e1 with rfl | rfl <;> rcases e2 with rfl | rfl <;> rcases e3 with rfl | rfl <;> simp at h ⊢
  rcases cases4 with ⟨rfl, rfl, rfl⟩ | ⟨rfl, rfl, rfl⟩ | ⟨rfl, rfl, rfl⟩ | ⟨rfl, rfl, rfl⟩
  · obtain ⟨r, rfl⟩ := l1 T.len
    obtain ⟨q, rfl⟩ := l1 Hs.len
    obtain ⟨v, rfl⟩ := l1 (T.row r (by simp)).1
    obtain ⟨hh, rfl⟩ := l1 (Hs.row q (by simp)).1
    have hv : v < 1 := (T.row [v] (by simp)).2 v (by simp)
    have : v = 0 := by omega
    subst this
    exact okB_ok (two hh z)
  · obtain ⟨r, rfl⟩ := l1 T.len
    obtain ⟨q, rfl⟩ := l1 Hs.len
    obtain ⟨v, rfl⟩ := l1 (T.row r (by simp)).1
    obtain ⟨hh, rfl⟩ := l1 (Hs.row q (by simp)).1
    have hv : v < 2 := (T.row [v] (by simp)).2 v (by simp)
    exact okB_ok (one v hv hh z)
  · obtain ⟨r, rfl⟩ := l1 T.len
    obtain ⟨q, rfl⟩ := l1 Hs.len
    obtain ⟨v, w, rfl⟩ := l2 (T.row r (by simp)).1
    obtain ⟨h1, h2, rfl⟩ := l2 (Hs.row q (by simp)).1
    have hv : v < 1 := (T.row [v, w] (by simp)).2 v (by simp)
    have hw : w < 1 := (T.row [v, w] (by simp)).2 w (by simp)
    have e1 : v = 0 := by omega
    have e2 : w = 0 := by omega
    subst e1 e2
    exact okB_ok (three h1 h2 z)
  · obtain ⟨r, r2, rfl⟩ := l2 T.len
    obtain ⟨q, q2, rfl⟩ := l2 Hs.len
    obtain ⟨v, rfl⟩ := l1 (T.row r (by simp)).1
    obtain ⟨w, rfl⟩ := l1 (T.row r2 (by simp)).1
    obtain ⟨h1, rfl⟩ := l1 (Hs.row q (by simp)).1
    obtain ⟨h2, rfl⟩ := l1 (Hs.row q2 (by simp)).1
    have hv : v < 1 := (T.row [v] (by simp)).2 v (by simp)
    have hw : w < 1 := (T.row [w] (by simp)).2 w (by simp)
    have e1 : v = 0 := by omega
    have e2 : w = 0 := by omega
    subst e1 e2
    exact okB_ok (four h1 h2 z)

/-! ### transformations -/
def after (f g : List Nat) : List Nat := f.map (at' g)
structure IsMap (k : Nat) (f : List Nat) : Prop where
  len : f.length = k
  lt : ∀ z ∈ f, z < k
theorem after_map {k : Nat} {f g : List Nat} (F : IsMap k f) (G : IsMap k g) : IsMap k (after f g) := by
  refine ⟨by unfold after; rw [List.length_map]; exact F.len, fun z hz => ?_⟩
  obtain ⟨x, hx, rfl⟩ := List.mem_map.mp hz
  exact G.lt _ (at_mem (by rw [G.len]; exact F.lt x hx))
theorem after_assoc {k : Nat} {f g h : List Nat} (F : IsMap k f) (G : IsMap k g) : after (after f g) h = after f (after g h) := by
  unfold after
  rw [List.map_map]
  refine List.map_congr_left fun x hx => ?_
  show at' h (at' g x) = _
  rw [at_map (by rw [G.len]; exact F.lt x hx)]
/-- all products with what is right of them stay in -/
def Good (k : Nat) (ms : List (List Nat)) (g : List Nat) : Prop := ∀ S : List Nat → Prop, (∀ f, S f → IsMap k f) → (∀ f, S f → ∀ m ∈ ms, S (after f m)) → ∀ f, S f → S (after f g)
theorem good_gen {k : Nat} {ms : List (List Nat)} {m : List Nat} (h : m ∈ ms) : Good k ms m := fun S _ hc f hf => hc f hf m h
theorem good_after {k : Nat} {ms : List (List Nat)} {g m : List Nat} (hm : m ∈ ms) (hG : IsMap k g) (h : Good k ms g) : Good k ms (after g m) := fun S hv hc f hf => by
  rw [← after_assoc (hv f hf) hG]
  exact hc _ (h S hv hc f hf) m hm
structure FInv (k : Nat) (ms found : List (List Nat)) : Prop where
  maps : ∀ f ∈ found, IsMap k f
  good : ∀ f ∈ found, Good k ms f
  nd : found.Nodup
  pos : 0 < found.length
/-- closed under the products with the generators -/
def RCl (ms found : List (List Nat)) : Prop := ∀ f ∈ found, ∀ m ∈ ms, after f m ∈ found
structure FOk (k : Nat) (found : List (List Nat)) : Prop where
  maps : ∀ f ∈ found, IsMap k f
  nd : found.Nodup
  pos : 0 < found.length
  closed : ∀ f ∈ found, ∀ g ∈ found, after f g ∈ found
theorem fok_of {k : Nat} {ms found : List (List Nat)} (I : FInv k ms found) (c : RCl ms found) : FOk k found :=
  ⟨I.maps, I.nd, I.pos, fun f hf g hg => I.good g hg (· ∈ found) I.maps c f hf⟩
def mapsT (found : List (List Nat)) : List (List Nat) := found.map fun f => found.map fun g => found.idxOf (after f g)
theorem maps_ok {k : Nat} {found : List (List Nat)} (I : FOk k found) (h : found.length ≤ 4) : Ok4 (mapsT found) := by
  have hl : (mapsT found).length = found.length := List.length_map ..
  have el : ∀ r ∈ mapsT found, r.length = (mapsT found).length := fun r hr => by
    obtain ⟨f, _, rfl⟩ := List.mem_map.mp hr
    rw [List.length_map, hl]
  have look : ∀ i (hi : i < found.length), ∀ j (hj : j < found.length), mul (mapsT found) i j = found.idxOf (after found[i] found[j]) := fun i hi j hj => by
    unfold mul
    rw [row_getD (by rw [hl]; exact hi)]
    have e : (mapsT found)[i]'(by rw [hl]; exact hi) = found.map fun g => found.idxOf (after found[i] g) := by
      simp only [mapsT, List.getElem_map]
    rw [e, List.getD_eq_getElem?_getD, List.getElem?_map, List.getElem?_eq_getElem hj]
    rfl
  have inn : ∀ i (hi : i < found.length), ∀ j (hj : j < found.length), ∃ h : mul (mapsT found) i j < found.length, found[mul (mapsT found) i j] = after found[i] found[j] := fun i hi j hj => by
    have hm := I.closed _ (List.getElem_mem hi) _ (List.getElem_mem hj)
    have q := List.idxOf_lt_length_iff.mpr hm
    have e := look i hi j hj
    refine ⟨by rw [e]; exact q, ?_⟩
    have q2 := List.getElem_idxOf q
    have cg : ∀ {m m' : Nat} (hm : m < found.length) (hm' : m' < found.length), m = m' → found[m] = found[m'] := fun {m m'} hm hm' em => by subst em; rfl
    exact (cg _ q e).trans q2
  have e := tab_self el
  rw [e, hl]
  refine tab_ok I.pos h (fun i j hi hj => (inn i hi j hj).1) fun i j l hi hj hll => ?_
  obtain ⟨a1, a2⟩ := inn i hi j hj
  obtain ⟨b1, b2⟩ := inn j hj l hll
  obtain ⟨c1, c2⟩ := inn _ a1 l hll
  obtain ⟨d1, d2⟩ := inn i hi _ b1
  refine (List.getElem_inj (h₀ := c1) (h₁ := d1) I.nd).mp ?_
  rw [c2, d2, a2, b2]
  exact after_assoc (I.maps _ (List.getElem_mem hi)) (I.maps _ (List.getElem_mem hj))
theorem const_ok {k v : Nat} (hk : 0 < k) (hv : v < k) : FOk k [List.replicate k v] := by
  have hm : IsMap k (List.replicate k v) := ⟨List.length_replicate .., fun z hz => by rw [(List.mem_replicate.mp hz).2]; exact hv⟩
  refine ⟨fun f hf => by rw [List.mem_singleton.mp hf]; exact hm, List.nodup_cons.mpr ⟨by simp, List.nodup_nil⟩, by simp, fun f hf g hg => ?_⟩
  rw [List.mem_singleton.mp hf, List.mem_singleton.mp hg, List.mem_singleton]
  refine ext_at (by unfold after; rw [List.length_map]) fun x hx => ?_
  have hx' : x < k := by
    unfold after at hx
    rw [List.length_map, List.length_replicate] at hx
    exact hx
  have rep : ∀ y, y < k → at' (List.replicate k v) y = v := fun y hy => by rw [at_eq (by rw [List.length_replicate]; exact hy), List.getElem_replicate]
  unfold after
  rw [at_map (by rw [List.length_replicate]; exact hx'), rep x hx', rep v hv]
/-- between the turns: many, or more than the turns, or closed -/
def CInv (ms : List (List Nat)) (n : Nat) (found : List (List Nat)) : Prop := 30 ≤ found.length ∨ n + 1 ≤ found.length ∨ RCl ms found
theorem cinv_end {ms found : List (List Nat)} (h : CInv ms 30 found) (h4 : found.length ≤ 4) : RCl ms found := by
  rcases h with h | h | h
  · omega
  · omega
  · exact h
end M7
end
section
set_option Elab.async false
set_option linter.all false
set_option maxRecDepth 100000
set_option maxHeartbeats 1000000
namespace W7
open PySem PySem.Spec PyProof.Rows L2 K37 M7
structure Bl (mg : Str → Option Value) : Prop where
  isinstance : mg "isinstance" = none
  int : mg "int" = none
  bool : mg "bool" = none
  tuple : mg "tuple" = none
  list : mg "list" = none
  len : mg "len" = none
  range : mg "range" = none
  min : mg "min" = none
  max : mg "max" = none
  enumerate : mg "enumerate" = none
  all : mg "all" = none
  sorted : mg "sorted" = none
  sum : mg "sum" = none
  set : mg "set" = none
  zip : mg "zip" = none
  abs : mg "abs" = none
structure SemF (K : PySem.W.Frag) (mg : Str → Option Value) (C : Addr) : Prop where
  mg : mg "Semigroup" = some (.ref C)
  cls : Cls K C
  n : NoAttr K C "n"
  t : NoAttr K C "table"
/-! ### defs that stand ready to be called -/
section
variable (P : Program) (w : World) (K : PySem.W.Frag) (mg : Str → Option Value) (base : Heap)
structure Has (x : Str) (ps : List Str) (k : Nat) (sp : Sp) : Prop where
  ex : ∃ f fd, mg x = some (.ref f) ∧ PySem.W.keepIn K (.ref f) = true ∧ Binds K fd ps [] ∧ FnOk P w K mg base CX0 k f fd ps sp
structure MHas (C : Addr) (m : Str) (ps : List Str) (k : Nat) (sp : Sp) : Prop where
  ex : ∃ f fd, Meth K C m f ∧ Binds K fd ps [] ∧ FnOk P w K mg base CX0 k f fd ps sp
structure IHas (C : Addr) (ps : List Str) (k : Nat) (sp : Sp) : Prop where
  ex : ∃ f fd, Mk K C f ∧ Binds K fd ps [] ∧ FnOk P w K mg base CX0 k f fd ps sp
structure Dfn (x : Str) (st : Stmt) : Prop where
  ex : ∃ f fd, FunD K x x (defArgs st) (defBody st) (defScope st) [] [] f fd ∧ mg x = some (.ref f)
end
section
variable {X : Cx} {k j : Nat} {ps : List Str} {sp : Sp} {x m : Str} {e o : Expr} {es : List Expr} {p pos apos : Pos} {t : TA} {ta : TE} {C : Addr}
theorem pe_has (F : Has X.prog X.w X.K X.mg X.base x ps k sp) (hr : Room k X.A) (ha : PA X (e :: es) t) (hg : Gl X x := by rfl) (hdb : (x == ("__debug__" : Str)) = false := by decide)
    (he : starEach (e :: es) X.env = (false, eval e X.env) :: starEach es X.env := by rfl) (hpl : (backTo pos (starEach es X.env)).any (·.1) = false := by rfl) :
    PE X (.Call (.Name x p) (e :: es) [] pos) (tCall sp [] E0 t) := by
  obtain ⟨f, fd, hm, hk, hb, ok⟩ := F.ex
  exact pe_call ok hr hg hm hk hb .nil pass0 ha hdb he hpl
theorem pe_mk (S : SemF X.K X.mg C) (F : IHas X.prog X.w X.K X.mg X.base C ps k sp) (hr : Room (k + 1) X.A) (ha : PA X (e :: es) t) (hg : Gl X "Semigroup" := by rfl)
    (he : starEach (e :: es) X.env = (false, eval e X.env) :: starEach es X.env := by rfl) (hpl : (backTo pos (starEach es X.env)).any (·.1) = false := by rfl) :
    PE X (.Call (.Name "Semigroup" p) (e :: es) [] pos) (tMake C sp [] E0 t) := by
  obtain ⟨f, fd, M, hb, ok⟩ := F.ex
  exact pe_make M ok hr hg S.mg hb .nil pass0 ha (by decide) he hpl
theorem pe_methS {pl : Sem Bool} (S : SemF X.K X.mg C) (F : MHas X.prog X.w X.K X.mg X.base C m ps k sp) (hr : Room k X.A) (ho : PE X o ta) (ha : PA X (e :: es) t)
    (he : starEach (e :: es) X.env = (false, eval e X.env) :: starEach es X.env := by rfl) (hpl : (backTo pos (starEach es X.env)).any (·.1) = false := by rfl)
    (ht : eval (.Call (.Attribute o m apos) (e :: es) [] pos) X.env = (do
      let ov ← eval o X.env
      standAt apos.atName
      let (f, first) ← holding [ov] (getMethod ov m pl)
      callWith pos f first (backTo pos (starEach (e :: es) X.env)) (backToKw pos (keywordEach [] X.env))) := by rfl) :
    PE X (.Call (.Attribute o m apos) (e :: es) [] pos) (tMeth C m sp [] E0 ta t) := by
  obtain ⟨f, fd, M, hb, ok⟩ := F.ex
  exact pe_meth ho S.cls M ok hr hb .nil pass0 ha he hpl ht
end
section
variable {P : Program} {w : World} {K : PySem.W.Frag} {mg : Str → Option Value} {base : Heap}
theorem Dfn.has {x : Str} {st : Stmt} {N ps : List Str} {k : Nat} {sp : Sp} (D : Dfn K mg x st) (S : FnScope N ps (defScope st))
    (hb : ∀ (kV doc pm : Value) (an : Option Addr) (cdv ct : Value) (us : List Value), us.length = ps.length → bindArgs (PySem.W.fnOf x x (defArgs st) (defBody st) (defScope st) .none kV doc pm an cdv ct) ⟨us, []⟩ = pure (ps.zip us))
    (len : ∀ vs H Q E, sp vs H Q E → vs.length = ps.length)
    (body : ∀ (f : Addr) (cdv : Value) (A : Around) (outer : List Env) (s : Shared) (H : Hp) (vs : List V) (Q : VK) (E : XK), Room k (A.deeper (envOfC x (defScope st) s.heap.objs.size f cdv)) → sp vs H Q E →
      ∃ t, PSs (cxOf CX0 P w K mg base N x (defScope st) f cdv A outer s H E).nox (defBody st) t ∧ t { nx := fun _ H' => Q .non H', rt := Q } (start N vs) H) : Has P w K mg base x ps (k + 1) sp := by
  obtain ⟨f, fd, F, g⟩ := D.ex
  exact ⟨f, fd, g, F.kp, F.bindsN hb, F.ok S len fun cdv A outer s H vs Q E hr h => let ⟨t, a, b⟩ := body f cdv A outer s H vs Q E hr h; ⟨t, a.nox, b⟩⟩
theorem Has.mono {x : Str} {ps : List Str} {k k' : Nat} {sp : Sp} (F : Has P w K mg base x ps k sp) (h : k ≤ k') : Has P w K mg base x ps k' sp :=
  let ⟨f, fd, a, b, c, d⟩ := F.ex
  ⟨f, fd, a, b, c, d.mono h⟩
end
theorem hu65 {A : Around} {k : Nat} (hr : Room k A) : A.units + 65 < cLine := by
  have h := hr.un
  omega
theorem hu0 {A : Around} {k : Nat} (hr : Room k A) : A.units < cLine := Nat.lt_of_le_of_lt (Nat.le_add_right _ _) (hu_of hr)
end W7
end
section
set_option Elab.async false
set_option linter.all false
set_option maxRecDepth 100000
set_option maxHeartbeats 1000000
/-! rules with plain readings: objects are tracked lists and tuples -/
namespace W7
open PySem PySem.Spec PyProof.Rows L2 K37 M7

/-! ### values -/
def nv (ns : List Nat) : List V := ns.map fun (n : Nat) => V.int (n : Int)
theorem nv_len (ns : List Nat) : (nv ns).length = ns.length := List.length_map ..
theorem nv_at {ns : List Nat} {j : Nat} (h : j < ns.length) : (nv ns)[j]? = some (.int (at' ns j : Nat)) := by
  unfold nv
  rw [List.getElem?_map, List.getElem?_eq_getElem h, at_eq h]
  rfl
theorem nv_inj : ∀ {a b : List Nat}, nv a = nv b → a = b
  | [], [], _ => rfl
  | [], _ :: _, h => by cases h
  | _ :: _, [], h => by cases h
  | x :: a, y :: b, h => by
    have h' : V.int (x : Int) :: nv a = V.int (y : Int) :: nv b := h
    injection h' with h1 h2
    injection h1 with h1
    rw [Int.ofNat.inj h1, nv_inj h2]
theorem nv_append (a b : List Nat) : nv (a ++ b) = nv a ++ nv b := List.map_append
/-- a tuple, a list of whole numbers -/
def Tn (H : Hp) (v : V) (ns : List Nat) : Prop := ∃ a, v = .ref a ∧ H a = some (.tup (nv ns))
def Ln (H : Hp) (v : V) (ns : List Nat) : Prop := ∃ a, v = .ref a ∧ H a = some (.lst (nv ns))
/-- a tuple of such tuples -/
def Tt (H : Hp) (v : V) (t : List (List Nat)) : Prop := ∃ a vs, v = .ref a ∧ H a = some (.tup vs) ∧ Paired (Tn H) vs t
def Lt (H : Hp) (v : V) (t : List (List Nat)) : Prop := ∃ a vs, v = .ref a ∧ H a = some (.lst vs) ∧ Paired (Tn H) vs t
def fixd : HO → Bool
  | .tup _ => true
  | .ins _ _ _ => true
  | .frz _ (.tup _) => true
  | _ => false
/-- tuples and instances stand -/
def Fx (H H' : Hp) : Prop := ∀ b o, fixd o = true → H b = some o → H' b = some o
theorem Fx.refl (H : Hp) : Fx H H := fun _ _ _ h => h
theorem Fx.trans {H H1 H2 : Hp} (a : Fx H H1) (b : Fx H1 H2) : Fx H H2 := fun c o f h => b c o f (a c o f h)
theorem fx_of {H H' : Hp} (s : Same H H') : Fx H H' := fun b o _ h => s b o h
theorem fx_upd {H : Hp} {l : Addr} {o : HO} (h : ∀ u, H l = some u → fixd u = false) : Fx H (upd H l o) := fun b u f e => by
  by_cases q : b = l
  · subst q
    rw [h u e] at f
    cases f
  · rw [upd_ne q]
    exact e
theorem fx_put {H : Hp} {l : Addr} {o u : HO} (h : H l = some u) (f : fixd u = false := by rfl) : Fx H (upd H l o) := fx_upd fun w e => by
  rw [h] at e
  cases e
  exact f
theorem fx_new {H : Hp} {l : Addr} {o : HO} (h : H l = none) : Fx H (upd H l o) := fx_upd fun w e => by
  rw [h] at e
  cases e
theorem same_new {H : Hp} {l : Addr} {o : HO} (h : H l = none) : Same H (upd H l o) := fun b u e => by
  rw [upd_ne (ne_of_none e h)]
  exact e
/-- H0 stands while l, new since, is written -/
theorem same_put {H0 H : Hp} {l : Addr} {o : HO} (s : Same H0 H) (h : H0 l = none) : Same H0 (upd H l o) := fun b u e => by
  rw [upd_ne (ne_of_none e h)]
  exact s b u e
theorem Tn.fx {H H' : Hp} {v : V} {ns : List Nat} (h : Tn H v ns) (f : Fx H H') : Tn H' v ns := let ⟨a, e, q⟩ := h; ⟨a, e, f _ _ rfl q⟩
theorem prd_imp {α β : Type} {F G : α → β → Prop} {l₁ : List α} {l₂ : List β} (h : Paired F l₁ l₂) (k : ∀ a b, F a b → G a b) : Paired G l₁ l₂ := Paired.mapP h k
theorem tns_fx {H H' : Hp} {vs : List V} {t : List (List Nat)} (h : Paired (Tn H) vs t) (f : Fx H H') : Paired (Tn H') vs t := prd_imp h fun _ _ q => q.fx f
theorem Tt.fx {H H' : Hp} {v : V} {t : List (List Nat)} (h : Tt H v t) (f : Fx H H') : Tt H' v t := let ⟨a, vs, e, q, p⟩ := h; ⟨a, vs, e, f _ _ rfl q, tns_fx p f⟩
theorem Tn.inj {H : Hp} {v : V} {a b : List Nat} (h : Tn H v a) (k : Tn H v b) : a = b := by
  obtain ⟨p, rfl, h⟩ := h
  obtain ⟨q, e, k⟩ := k
  cases e
  rw [h] at k
  injection k with k
  injection k with k
  exact nv_inj k
theorem prd_len {α β : Type} {F : α → β → Prop} {l₁ : List α} {l₂ : List β} (h : Paired F l₁ l₂) : l₁.length = l₂.length := Paired.length h
theorem prd_at {α β : Type} {F : α → β → Prop} : ∀ {l₁ : List α} {l₂ : List β} {j : Nat} {y : β}, Paired F l₁ l₂ → l₂[j]? = some y → ∃ x, l₁[j]? = some x ∧ F x y
  | _, _, _, _, .nil, e => by simp at e
  | _, _, 0, _, .cons r _, e => by simp at e; subst e; exact ⟨_, rfl, r⟩
  | _, _, j + 1, _, .cons _ t, e => by
    obtain ⟨x, a, b⟩ := prd_at (j := j) t (by simpa using e)
    exact ⟨x, by simpa using a, b⟩
theorem prd_at' {α β : Type} {F : α → β → Prop} : ∀ {l₁ : List α} {l₂ : List β} {j : Nat} {x : α}, Paired F l₁ l₂ → l₁[j]? = some x → ∃ y, l₂[j]? = some y ∧ F x y
  | _, _, _, _, .nil, e => by simp at e
  | _, _, 0, _, .cons r _, e => by simp at e; subst e; exact ⟨_, rfl, r⟩
  | _, _, j + 1, _, .cons _ t, e => by
    obtain ⟨x, a, b⟩ := prd_at' (j := j) t (by simpa using e)
    exact ⟨x, by simpa using a, b⟩
theorem prd_app {α β : Type} {F : α → β → Prop} {a c : List α} {b d : List β} (h : Paired F a b) (k : Paired F c d) : Paired F (a ++ c) (b ++ d) := by
  induction h with
  | nil => exact k
  | cons r _ ih => exact .cons r ih
theorem prd_one {α β : Type} {F : α → β → Prop} {x : α} {y : β} (h : F x y) : Paired F [x] [y] := .cons h .nil
theorem prd_nv {vs : List V} {ns : List Nat} (h : Paired (fun v (n : Nat) => v = .int (n : Int)) vs ns) : vs = nv ns := by
  induction h with
  | nil => rfl
  | cons r _ ih => rw [r, ih]; rfl
theorem nv_prd : ∀ ns : List Nat, Paired (fun v (n : Nat) => v = V.int (n : Int)) (nv ns) ns
  | [] => .nil
  | _ :: ns => .cons rfl (nv_prd ns)

/-! ### change of readings -/
section
variable {X : Cx} {f : Value → Value → Sem Value} {r r' : R2} {id : String} {g : Value}
theorem opr_imp (h : OpR X f r) (k : ∀ x y H Q, r' x y H Q → r x y H Q) : OpR X f r' := fun pins s σ H x y v u Q I rx ry q => h pins s σ H x y v u Q I rx ry (k _ _ _ _ q)
theorem ixr_imp (h : IxR X r) (k : ∀ x y H Q, r' x y H Q → r x y H Q) : IxR X r' := fun a b pins s σ H x y v u Q I rx ry q e => h a b pins s σ H x y v u Q I rx ry (k _ _ _ _ q) e
theorem callr_imp {r r' : List V → Hp → VK → Prop} (h : CallR X g r) (k : ∀ xs H Q, r' xs H Q → r xs H Q) : CallR X g r' := fun pins s σ H xs us Q I rx q => h pins s σ H xs us Q I rx (k _ _ _ q)
theorem pe_imp {e : Expr} {t t' : TE} (h : PE X e t) (k : ∀ σ H Q, t' σ H Q → t σ H Q) : PE X e t' := ⟨fun pins s σ H Q I q => h.run pins s σ H Q I (k _ _ _ q)⟩
theorem pi_imp {tg e : Expr} {t t' : TI} (h : PI X tg e t) (k : ∀ σ H Q, t' σ H Q → t σ H Q) : PI X tg e t' := ⟨fun pins s σ H Q I q => h.run pins s σ H Q I (k _ _ _ q)⟩
theorem pg_imp {e : Expr} {t t' : TG} (h : PG X e t) (k : ∀ v σ H Q, t' v σ H Q → t v σ H Q) : PG X e t' := ⟨fun pins s σ H v u Q I r q => h.run pins s σ H v u Q I r (k _ _ _ _ q)⟩
end

/-! ### subscripts, length, copies -/
def ixT : R2 := fun x y H Q => ∃ p xs v, ∃ j : Nat, x = .ref p ∧ y = .int (j : Int) ∧ H p = some (.tup xs) ∧ xs[j]? = some v ∧ Q v H
def ixL : R2 := fun x y H Q => ∃ p xs v, ∃ j : Nat, x = .ref p ∧ y = .int (j : Int) ∧ H p = some (.lst xs) ∧ xs[j]? = some v ∧ Q v H
def rLen7 : List V → Hp → VK → Prop := fun vs H Q => ∃ p xs, vs = [.ref p] ∧ (H p = some (.lst xs) ∨ H p = some (.tup xs)) ∧ Q (.int (xs.length : Nat)) H
def rList7 : List V → Hp → VK → Prop := fun vs H Q => ∃ p xs, vs = [.ref p] ∧ (H p = some (.lst xs) ∨ H p = some (.tup xs)) ∧ ∀ l, H l = none → Q (.ref l) (upd H l (.lst xs))
def rTup7 : List V → Hp → VK → Prop := fun vs H Q => ∃ p xs, vs = [.ref p] ∧ ((H p = some (.lst xs) ∧ ∀ l, H l = none → Q (.ref l) (upd H l (.tup xs))) ∨ (H p = some (.tup xs) ∧ Q (.ref p) H))
def rSl7 : V → Option Int → Option Int → Hp → VK → Prop := fun x lo hi H Q => ∃ a xs, x = .ref a ∧ H a = some (.lst xs) ∧ ∀ p, H p = none → Q (.ref p) (upd H p (.lst (cutV xs lo hi)))
def rCat7 : R2 := fun x y H Q => ∃ a b xs ys, x = .ref a ∧ y = .ref b ∧ H a = some (.tup xs) ∧ H b = some (.tup ys) ∧ xs.length + ys.length ≤ sizeLine ∧ ys ≠ [] ∧ (xs = [] → Q (.ref b) H) ∧ (xs ≠ [] → ∀ p, H p = none → Q (.ref p) (upd H p (.tup (xs ++ ys))))
section
variable {X : Cx}
theorem ix7T : IxR X ixT := ixr_imp ix_tup fun x y H Q ⟨p, xs, v, j, a, b, c, d, q⟩ => ⟨p, xs, _, v, a, b, .of c, atI_nat d, q⟩
theorem ix7L : IxR X ixL := ixr_imp ix_list fun x y H Q ⟨p, xs, v, j, a, b, c, d, q⟩ => ⟨p, xs, _, v, a, b, .of c, atI_nat d, q⟩
theorem len7 : CallR X (.builtin "len") rLen7 := callr_imp call_len_seq fun xs H Q ⟨p, ys, a, b, q⟩ => ⟨p, ys, a, b.elim (fun h => .inl (.of h)) fun h => .inr (.of h), q⟩
theorem list7 : CallR X (.type "list") rList7 := callr_imp call_list_of fun xs H Q ⟨p, ys, a, b, q⟩ => ⟨p, ys, a, b.elim (fun h => .inl (.of h)) fun h => .inr (.of h), q⟩
theorem tup7 : CallR X (.type "tuple") rTup7 := callr_imp call_tuple_of fun xs H Q ⟨p, ys, a, b⟩ => ⟨p, ys, a, b.elim (fun h => .inl ⟨.of h.1, h.2⟩) fun h => .inr ⟨.of h.1, h.2⟩⟩
theorem sl7 : SlR X rSl7 := fun pins s σ H x v vl vu lo hi sl Q I rx a b c ⟨p, xs, e, h, q⟩ => sl_list pins s σ H x v vl vu lo hi sl Q I rx a b c ⟨p, xs, e, .of h, q⟩
theorem cat7 : OpR X (binaryOp .Add) rCat7 := opr_imp op_catA fun x y H Q ⟨a, b, xs, ys, e1, e2, h1, h2, h3, h4, q1, q2⟩ => ⟨a, b, xs, ys, e1, e2, .of h1, .of h2, h3, q1, fun _ z => absurd z h4, fun z _ => q2 z⟩
end

/-! ### walks -/
def iL7 (tl : TE) (K : PySem.W.Frag) : TI := fun σ H R => tl σ H fun x H1 => ∃ a xs, x = .ref a ∧ H1 a = some (.lst xs) ∧ R (Itl K a) H1
def iT7 (tl : TE) (K : PySem.W.Frag) : TI := fun σ H R => tl σ H fun x H1 => ∃ a xs, x = .ref a ∧ H1 a = some (.tup xs) ∧ R (Itt K a) H1
def gTu (n : Nat) (t : TGs) : TG := fun v σ H Q => ∃ a xs, v = .ref a ∧ H a = some (.tup xs) ∧ xs.length = n ∧ t xs σ H Q
section
variable {X : Cx} {tg : Expr}
theorem pe_mono {e : Expr} {t : TE} (h : PE X e t) : True := trivial
theorem pi7L {l : Expr} {tl : TE} (K : PySem.W.Frag) (hl : PE X l tl) (hK : X.K = K := by rfl) : PI X tg l (iList K tl) := hK ▸ pi_list hl
theorem pi7T {l : Expr} {tl : TE} (K : PySem.W.Frag) (hl : PE X l tl) (hK : X.K = K := by rfl) : PI X tg l (iTup K tl) := hK ▸ pi_tup hl
theorem pg7 {es : List Expr} {k : Nat} {pos : Pos} {t : TGs} {n : Nat} (K : PySem.W.Frag) (hc : X.calm = true) (h : PGs X es t)
    (hn : (assignEach es X.env).length = n := by rfl) (hst : (assignEach es X.env).findIdx? (·.1) = none := by rfl) (hK : X.K = K := by rfl) : PG X (.Tuple es k pos) (gTup K n t) := hK ▸ pg_tup hc h hn hst
end

/-! ### instances -/
def SGt (C : Addr) (H : Hp) (v : V) (t : List (List Nat)) (tv : V) : Prop := ∃ a dx, v = .ref a ∧ H a = some (.ins C dx [("n", .int (t.length : Nat)), ("table", tv)]) ∧ Tt H tv t
def SG (C : Addr) (H : Hp) (v : V) (t : List (List Nat)) : Prop := ∃ tv, SGt C H v t tv
theorem SGt.fx {C : Addr} {H H' : Hp} {v tv : V} {t : List (List Nat)} (h : SGt C H v t tv) (f : Fx H H') : SGt C H' v t tv := let ⟨a, dx, e, q, p⟩ := h; ⟨a, dx, e, f _ _ rfl q, p.fx f⟩
theorem SG.fx {C : Addr} {H H' : Hp} {v : V} {t : List (List Nat)} (h : SG C H v t) (f : Fx H H') : SG C H' v t := let ⟨tv, q⟩ := h; ⟨tv, q.fx f⟩
def tFn (C : Addr) (ta : TE) : TE := fun σ H Q => ta σ H fun x H1 => ∃ t, SG C H1 x t ∧ Q (.int (t.length : Nat)) H1
def tFt (C : Addr) (ta : TE) : TE := fun σ H Q => ta σ H fun x H1 => ∃ t tv, SGt C H1 x t tv ∧ Q tv H1
section
variable {X : Cx}
/-- a PE's reading is taken at the outcome -/
theorem pe_out {e : Expr} {ta : TE} {k : V → Hp → VK → Prop} {f : TE → TE} (h : PE X e ta) : PE X e ta := h
def tFf (K : PySem.W.Frag) (C : Addr) (f : Str) (ta : TE) : TE := fun σ H Q => ta σ H fun x H1 => ∃ a dx fs v, x = .ref a ∧ H1 a = some (.ins C dx fs) ∧ fs.lookup f = some v ∧ Q v H1
theorem pe_fldN {K : PySem.W.Frag} {mg : Str → Option Value} {C : Addr} {e : Expr} {ta : TE} {pos : Pos} (S : SemF K mg C) (he : PE X e ta) (hK : X.K = K := by rfl) (hb : attributeBase e "n" X.env (eval e X.env) = eval e X.env := by rfl) : PE X (.Attribute e "n" pos) (tFn C ta) := by
  subst hK
  refine ⟨fun pins s σ H Q I h => ?_⟩
  refine attr_of hb (thn (he.run pins s σ H _ I h) fun u s1 ⟨x, H1, I1, rx, t, ⟨tv, a, dx, ex, ea, _⟩, q⟩ => ?_)
  subst ex
  obtain rfl : u = Value.ref a := rx
  exact getattr_ok I1 ea S.cls S.n (v := .int (t.length : Nat)) rfl fun w s2 I2 r2 => ⟨_, H1, I2, r2, q⟩
theorem pe_fldT {K : PySem.W.Frag} {mg : Str → Option Value} {C : Addr} {e : Expr} {ta : TE} {pos : Pos} (S : SemF K mg C) (he : PE X e ta) (hK : X.K = K := by rfl) (hb : attributeBase e "table" X.env (eval e X.env) = eval e X.env := by rfl) : PE X (.Attribute e "table" pos) (tFt C ta) := by
  subst hK
  refine ⟨fun pins s σ H Q I h => ?_⟩
  refine attr_of hb (thn (he.run pins s σ H _ I h) fun u s1 ⟨x, H1, I1, rx, t, tv, ⟨a, dx, ex, ea, _⟩, q⟩ => ?_)
  subst ex
  obtain rfl : u = Value.ref a := rx
  exact getattr_ok I1 ea S.cls S.t (v := tv) rfl fun w s2 I2 r2 => ⟨_, H1, I2, r2, q⟩
end
end W7
end
section
set_option Elab.async false
set_option linter.all false
set_option maxRecDepth 100000
set_option maxHeartbeats 1000000
/-! in, ==, index, sum, all, isinstance: plain readings -/
namespace W7
open PySem PySem.Spec PyProof.Rows L2 K37 M7
def dn (ns : List Nat) : List PyData := ns.map fun (n : Nat) => PyData.int (n : Int)
theorem dn_lay : ∀ ns : List Nat, PyData.canLayAll0 (dn ns) = true
  | [] => rfl
  | n :: ns => by
    show (PyData.canLay0 (.int n) && PyData.canLayAll0 (dn ns)) = true
    rw [dn_lay ns]
    rfl
theorem dn_depth : ∀ ns : List Nat, PyData.depthAll (dn ns) = 0
  | [] => rfl
  | n :: ns => by
    show max (PyData.depth (.int n)) (PyData.depthAll (dn ns)) = 0
    rw [dn_depth ns]
    rfl
theorem dn_eqv : ∀ a b : List Nat, PyData.eqvAll (dn a) (dn b) = decide (a = b)
  | [], [] => rfl
  | [], _ :: _ => rfl
  | _ :: _, [] => rfl
  | x :: a, y :: b => by
    show (PyData.eqv (.int x) (.int y) && PyData.eqvAll (dn a) (dn b)) = _
    rw [dn_eqv a b]
    show (((x : Int) == (y : Int)) && decide (a = b)) = _
    by_cases h : x = y
    · by_cases k : a = b
      · subst h k; simp
      · subst h; simp [k]
    · have : ((x : Int) == (y : Int)) = false := by simp; omega
      rw [this]
      simp [h]
def dtu (ns : List Nat) : PyData := .tuple (dn ns)
def dli (ns : List Nat) : PyData := .list (dn ns)
theorem dtu_shaped (ns : List Nat) : SeqAt.shaped (dtu ns) = true := by
  show (PyData.canLayAll0 (dn ns) && decide (PyData.depthAll (dn ns) + 1 ≤ 64)) = true
  rw [dn_lay, dn_depth]
  rfl
theorem dli_shaped (ns : List Nat) : SeqAt.shaped (dli ns) = true := by
  show (PyData.canLayAll0 (dn ns) && decide (PyData.depthAll (dn ns) + 1 ≤ 64)) = true
  rw [dn_lay, dn_depth]
  rfl
theorem dtu_eqv (a b : List Nat) : PyData.eqv (dtu a) (dtu b) = decide (a = b) := dn_eqv a b
theorem dli_eqv (a b : List Nat) : PyData.eqv (dli a) (dli b) = decide (a = b) := dn_eqv a b
def dtt (t : List (List Nat)) : List PyData := t.map dtu
theorem dtt_lay : ∀ t : List (List Nat), PyData.canLayAll0 (dtt t) = true
  | [] => rfl
  | r :: t => by
    show (PyData.canLayAll0 (dn r) && PyData.canLayAll0 (dtt t)) = true
    rw [dtt_lay t, dn_lay]
    rfl
theorem dtt_depth : ∀ t : List (List Nat), PyData.depthAll (dtt t) ≤ 1
  | [] => by decide
  | r :: t => by
    show max (PyData.depthAll (dn r) + 1) (PyData.depthAll (dtt t)) ≤ 1
    rw [dn_depth]
    have := dtt_depth t
    omega
theorem dtt_shaped (t : List (List Nat)) : SeqAt.shaped (.list (dtt t)) = true := by
  show (PyData.canLayAll0 (dtt t) && decide (PyData.depthAll (dtt t) + 1 ≤ 64)) = true
  rw [dtt_lay]
  have := dtt_depth t
  simp
  omega
section
variable {K : PySem.W.Frag} {H : Hp}
theorem dp_nv : ∀ ns : List Nat, DpAll K H (nv ns) (dn ns)
  | [] => .nil
  | n :: ns => .cons (.int _) (dp_nv ns)
theorem Tn.dp {v : V} {ns : List Nat} (h : Tn H v ns) : Dp K H v (dtu ns) := by
  obtain ⟨a, rfl, h⟩ := h
  exact .tup (.of h) (dp_nv ns)
theorem Ln.dp {v : V} {ns : List Nat} (h : Ln H v ns) : Dp K H v (dli ns) := by
  obtain ⟨a, rfl, h⟩ := h
  exact .lst (.of h) (dp_nv ns)
theorem tns_dp {vs : List V} {t : List (List Nat)} (h : Paired (Tn H) vs t) : DpAll K H vs (dtt t) := by
  induction h with
  | nil => exact .nil
  | cons r _ ih => exact .cons r.dp ih
end
/-- x not in xs, whole numbers -/
def rNi7 : R2 := fun x y H Q => ∃ (n : Nat) (ns : List Nat), x = .int (n : Int) ∧ Ln H y ns ∧ Q (.bl (decide (n ∉ ns))) H
def rNt7 : R2 := fun x y H Q => ∃ (r : List Nat) (t : List (List Nat)), Tn H x r ∧ Lt H y t ∧ Q (.bl (decide (r ∉ t))) H
def rEqT7 : R2 := fun x y H Q => ∃ a b : List Nat, Tn H x a ∧ Tn H y b ∧ Q (.bl (decide (a = b))) H
def rNeL7 : R2 := fun x y H Q => ∃ a b : List Nat, Ln H x a ∧ Ln H y b ∧ Q (.bl (decide (a ≠ b))) H
theorem inV_nv (n : Nat) : ∀ ns : List Nat, inV (.int n) (nv ns) = decide (n ∈ ns)
  | [] => by simp [inV, nv]
  | m :: ns => by
    have ih := inV_nv n ns
    show (eqV (.int m) (.int n) || inV (.int n) (nv ns)) = _
    rw [ih]
    show (((m : Int) == (n : Int)) || decide (n ∈ ns)) = _
    by_cases h : m = n
    · subst h; simp
    · have e : ((m : Int) == (n : Int)) = false := by simp; omega
      rw [e]
      have h' : ¬ n = m := fun q => h q.symm
      simp [h']
theorem flat_nv : ∀ ns : List Nat, (nv ns).all flatV = true
  | [] => rfl
  | _ :: ns => by
    show (true && (nv ns).all flatV) = true
    rw [flat_nv ns]
    rfl
theorem any_dtt (r : List Nat) : ∀ t : List (List Nat), ((dtt t).any fun z => PyData.eqv z (dtu r)) = decide (r ∈ t)
  | [] => by simp [dtt]
  | q :: t => by
    show (PyData.eqv (dtu q) (dtu r) || (dtt t).any fun z => PyData.eqv z (dtu r)) = _
    rw [any_dtt r t, dtu_eqv]
    by_cases h : q = r
    · subst h; simp
    · have h' : ¬ r = q := fun e => h e.symm
      simp [h, h']
section
variable {X : Cx}
theorem ni7 : OpR X (compareOp .NotIn) rNi7 := opr_imp op_notIn_seq fun x y H Q ⟨n, ns, e, ⟨a, ea, ha⟩, q⟩ => ⟨a, nv ns, ea, .inl (.of ha), by rw [e]; rfl, flat_nv ns, by
  rw [e, if_pos rfl, inV_nv]
  have : (!decide (n ∈ ns)) = decide (n ∉ ns) := by simp
  rw [this]
  exact q⟩
theorem nt7 (hu : X.A.units + 65 < cLine) : OpR X (compareOp .NotIn) rNt7 := opr_imp (op_notInD hu) fun x y H Q ⟨r, t, hr, ⟨a, vs, ea, ha, hp⟩, q⟩ => ⟨dtu r, dtt t, hr.dp, by rw [ea]; exact .lst (.of ha) (tns_dp hp), dtu_shaped r, dtt_shaped t, by
  rw [any_dtt]
  have : (!decide (r ∈ t)) = decide (r ∉ t) := by simp
  rw [this]
  exact q⟩
theorem eqT7 (hu : X.A.units + 64 < cLine) : OpR X (compareOp .Eq) rEqT7 := opr_imp (op_eqD hu) fun x y H Q ⟨a, b, ha, hb, q⟩ => ⟨dtu a, dtu b, ha.dp, hb.dp, dtu_shaped a, dtu_shaped b, by
  rw [dtu_eqv]
  exact q⟩
theorem neL7 (hu : X.A.units + 64 < cLine) : OpR X (compareOp .NotEq) rNeL7 := opr_imp (op_neD hu) fun x y H Q ⟨a, b, ha, hb, q⟩ => ⟨dli a, dli b, ha.dp, hb.dp, dli_shaped a, dli_shaped b, by
  rw [dli_eqv]
  have : (!decide (a = b)) = decide (a ≠ b) := by simp
  rw [this]
  exact q⟩
end
/-! ### index -/
def rIxTT : V → List V → Hp → VK → Prop := fun x xs H Q => ∃ (y : V) (r : List Nat) (t : List (List Nat)), xs = [y] ∧ Tn H y r ∧ Lt H x t ∧ r ∈ t ∧ Q (.int (t.idxOf r : Nat)) H
def rIxNL : V → List V → Hp → VK → Prop := fun x xs H Q => ∃ (n : Nat) (ns : List Nat), xs = [.int (n : Int)] ∧ Ln H x ns ∧ n ∈ ns ∧ Q (.int (ns.idxOf n : Nat)) H
def rIxNT : V → List V → Hp → VK → Prop := fun x xs H Q => ∃ (n : Nat) (ns : List Nat), xs = [.int (n : Int)] ∧ Tn H x ns ∧ n ∈ ns ∧ Q (.int (ns.idxOf n : Nat)) H
section
variable {α : Type} [BEq α] [LawfulBEq α]
theorem idx_at : ∀ {l : List α} {x : α}, x ∈ l → l[l.idxOf x]? = some x := fun {l x} h => by
  have q := List.idxOf_lt_length_iff.mpr h
  rw [List.getElem?_eq_getElem q, List.getElem_idxOf q]
theorem idx_before {l : List α} {x y : α} {m : Nat} (h : m < l.idxOf x) (e : l[m]? = some y) : y ≠ x := by
  intro z
  subst z
  obtain ⟨h1, h2⟩ := List.getElem?_eq_some_iff.mp e
  have := List.not_of_lt_findIdx (p := (· == y)) (xs := l) (i := m) h
  rw [h2] at this
  simp at this
end
section
variable {X : Cx}
theorem at_dn {ns : List Nat} {m : Nat} {z : PyData} (e : (dn ns)[m]? = some z) : ∃ n, ns[m]? = some n ∧ z = .int (n : Int) := by
  unfold dn at e
  rw [List.getElem?_map] at e
  cases q : ns[m]? with
  | none => rw [q] at e; cases e
  | some n => rw [q] at e; exact ⟨n, rfl, (Option.some.inj e).symm⟩
theorem at_dtt {t : List (List Nat)} {m : Nat} {z : PyData} (e : (dtt t)[m]? = some z) : ∃ n, t[m]? = some n ∧ z = dtu n := by
  unfold dtt at e
  rw [List.getElem?_map] at e
  cases q : t[m]? with
  | none => rw [q] at e; cases e
  | some n => rw [q] at e; exact ⟨n, rfl, (Option.some.inj e).symm⟩
theorem mt7TT (hu : X.A.units + 65 < cLine) : MtR X "list.index" rIxTT := fun pins s σ H x xs v us Q I rx rs ⟨y, r, t, e, hy, ⟨a, vs, ea, ha, hp⟩, hm, q⟩ =>
  mt_indexD hu pins s σ H x xs v us Q I rx rs ⟨a, y, dtu r, dtt t, t.idxOf r, dtu r, ea, e, .lst (.of ha) (tns_dp hp), hy.dp, dtt_shaped t, dtu_shaped r, by unfold dtt; rw [List.getElem?_map, idx_at hm]; rfl, by rw [dtu_eqv]; simp, fun m z hlt hz => by
    obtain ⟨n, e1, rfl⟩ := at_dtt hz
    rw [dtu_eqv]
    exact decide_eq_false (idx_before hlt e1), q⟩
theorem mt7NT (hu : X.A.units + 65 < cLine) : MtR X "tuple.index" rIxNT := fun pins s σ H x xs v us Q I rx rs ⟨n, ns, e, ⟨a, ea, ha⟩, hm, q⟩ =>
  mt_tup_indexU hu pins s σ H x xs v us Q I rx rs ⟨a, .int n, .int n, dn ns, ns.idxOf n, .int n, ea, e, .tup (.of ha) (dp_nv ns), .int _, dtu_shaped ns, rfl, by unfold dn; rw [List.getElem?_map, idx_at hm]; rfl, by show ((n : Int) == (n : Int)) = true; simp, fun m z hlt hz => by
    obtain ⟨k, e1, rfl⟩ := at_dn hz
    have := idx_before hlt e1
    show ((k : Int) == (n : Int)) = false
    simp
    omega, q⟩
theorem mt7NL (hu : X.A.units + 65 < cLine) : MtR X "list.index" rIxNL := fun pins s σ H x xs v us Q I rx rs ⟨n, ns, e, ⟨a, ea, ha⟩, hm, q⟩ =>
  mt_indexD hu pins s σ H x xs v us Q I rx rs ⟨a, .int n, .int n, dn ns, ns.idxOf n, .int n, ea, e, .lst (.of ha) (dp_nv ns), .int _, dli_shaped ns, rfl, by unfold dn; rw [List.getElem?_map, idx_at hm]; rfl, by show ((n : Int) == (n : Int)) = true; simp, fun m z hlt hz => by
    obtain ⟨k, e1, rfl⟩ := at_dn hz
    have := idx_before hlt e1
    show ((k : Int) == (n : Int)) = false
    simp
    omega, q⟩
end
/-! ### methods: append, pop, index -/
def tApp (to te : TE) : TE := fun σ H Q => to σ H fun x H1 => ∃ l xs, x = .ref l ∧ H1 l = some (.lst xs) ∧ te σ H1 fun y H2 => ∃ ys, H2 l = some (.lst ys) ∧ ys.length < sizeLine ∧ Q .non (upd H2 l (.lst (ys ++ [y])))
def tPop (to : TE) : TE := fun σ H Q => to σ H fun x H1 => ∃ l xs y, x = .ref l ∧ H1 l = some (.lst (xs ++ [y])) ∧ Q y (upd H1 l (.lst xs))
def tPopAt (to te : TE) : TE := fun σ H Q => to σ H fun x H1 => ∃ l xs, x = .ref l ∧ H1 l = some (.lst xs) ∧ te σ H1 fun y H2 => ∃ ys v, ∃ k : Nat, y = .int (k : Int) ∧ H2 l = some (.lst ys) ∧ k < 2 ^ 62 ∧ ys[k]? = some v ∧ Q v (upd H2 l (.lst (ys.eraseIdx k)))
def tIdx (r : V → List V → Hp → VK → Prop) (P : V → Hp → Prop) (to te : TE) : TE := fun σ H Q => to σ H fun x H1 => P x H1 ∧ te σ H1 fun y H2 => r x [y] H2 Q
def isL (x : V) (H : Hp) : Prop := ∃ l xs, x = .ref l ∧ H l = some (.lst xs)
def isT (x : V) (H : Hp) : Prop := ∃ l xs, x = .ref l ∧ H l = some (.tup xs)
section
variable {X : Cx} {o e : Expr} {to te : TE} {apos cpos : Pos}
theorem te_mono_of {e : Expr} {t : TE} {σ : L2.St} {H : Hp} {Q Q' : VK} (m : ∀ σ H Q Q', (∀ v H', Q v H' → Q' v H') → t σ H Q → t σ H Q') (h : t σ H Q) (k : ∀ v H', Q v H' → Q' v H') : t σ H Q' := m σ H Q Q' k h
theorem seq_ix {n k : Nat} (h : k < n) : seqIndex? (k : Int) n = some k := by
  have e : ixN n (k : Int) = some k := by
    unfold ixN
    rw [if_pos (by omega), if_pos (by omega)]
    simp
  exact (ixN_seq e).1
def rApp7 : V → List V → Hp → VK → Prop := fun x vs H Q => ∃ l ys y, x = .ref l ∧ vs = [y] ∧ H l = some (.lst ys) ∧ ys.length < sizeLine ∧ Q .non (upd H l (.lst (ys ++ [y])))
def rPop7 : V → List V → Hp → VK → Prop := fun x vs H Q => ∃ l xs y, x = .ref l ∧ vs = [] ∧ H l = some (.lst (xs ++ [y])) ∧ Q y (upd H l (.lst xs))
def rPopAt7 : V → List V → Hp → VK → Prop := fun x vs H Q => ∃ l ys v, ∃ k : Nat, x = .ref l ∧ vs = [.int (k : Int)] ∧ H l = some (.lst ys) ∧ k < 2 ^ 62 ∧ ys[k]? = some v ∧ Q v (upd H l (.lst (ys.eraseIdx k)))
theorem mtr_imp {id : String} {r r' : V → List V → Hp → VK → Prop} (h : MtR X id r) (k : ∀ x xs H Q, r' x xs H Q → r x xs H Q) : MtR X id r' := fun pins s σ H x xs v us Q I rx rs q => h pins s σ H x xs v us Q I rx rs (k _ _ _ _ q)
/-- the methods' readings: the receiver is a tracked list -/
def tM (P : V → Hp → Prop) (r : V → List V → Hp → VK → Prop) (to : TE) (t : TA) : TE := fun σ H Q => to σ H fun x H1 => P x H1 ∧ t σ H1 fun xs H2 => r x xs H2 Q
end
def tyP (K : PySem.W.Frag) (T : String) (x : V) (H : Hp) : Prop := tyV K T x H
theorem ty_list {K : PySem.W.Frag} {l : Addr} {xs : List V} {H : Hp} (h : H l = some (.lst xs)) : tyV K "list" (.ref l) H := Or.inl ⟨rfl, _, .of h⟩
end W7
end
section
set_option Elab.async false
set_option linter.all false
set_option maxRecDepth 100000
set_option maxHeartbeats 1000000
namespace W7
open PySem PySem.Spec PyProof.Rows L2 K37 M7
section
variable {X : Cx} {o e : Expr} {es : List Expr} {to : TE} {t : TA} {name : Str} {apos cpos : Pos} {T id : String} {r : V → List V → Hp → VK → Prop}
theorem isL_ty {K : PySem.W.Frag} {x : V} {H : Hp} (h : isL x H) : tyV K "list" x H := by
  obtain ⟨l, xs, rfl, h⟩ := h
  exact ty_list h
/-- a method of a tracked list -/
theorem pe_l7 (slot : Slot "list" name id) (hty : typeOf (.builtin id) = pure (.type "method_descriptor")) (hm : MtR X id r) (ho : PE X o to) (ha : PA X (e :: es) t)
    (hbase : attributeBase o name X.env (eval o X.env) = eval o X.env := by rfl)
    (hfew : ((backTo cpos (starEach (e :: es) X.env)).all (fun x => !x.1) && (backToKw cpos (keywordEach [] X.env)).all (fun x => x.1.isSome) && decide ((e :: es).length + ([] : List Keyword).length + (if ([] : List Keyword).isEmpty then 0 else 1) < 30)) = true := by rfl)
    (hline : (apos.endLine == cpos.line) = true := by rfl) (hs : starEach (e :: es) X.env = (false, eval e X.env) :: starEach es X.env := by rfl) (hpl : (backTo cpos (starEach es X.env)).any (·.1) = false := by rfl) :
    PE X (.Call (.Attribute o name apos) (e :: es) [] cpos) (tM isL r to t) := by
  refine ⟨fun pins s σ H Q I h => wpAny_Call_method_late hbase hfew hline rfl (thn (ho.run pins s σ H _ I h) fun v s1 hx => ?_)⟩
  obtain ⟨x, H1, I1, r1, ty, q1⟩ := hx
  obtain ⟨h1, h2⟩ := tyV_is I1 r1 (isL_ty ty)
  refine ⟨_, id, PySem.F.plainAttrs_list, slot, hty, h1, h2, ?_⟩
  have hA := ha.run cpos pins s1 σ H1 _ I1 q1
  rw [hs] at hA ⊢
  have hb : (false || (backTo cpos (starEach es X.env)).any (·.1)) = false := by rw [hpl]; rfl
  exact Calls.callWith_builtin hb (Calls.evalArgs_plain (thn hA fun us s2 ⟨vs, H2, I2, r2, q2⟩ => hm pins s2 σ H2 x vs v us Q I2 r1 r2 q2))
theorem pe_l70 (slot : Slot "list" name id) (hty : typeOf (.builtin id) = pure (.type "method_descriptor")) (hm : MtR X id r) (ho : PE X o to)
    (hbase : attributeBase o name X.env (eval o X.env) = eval o X.env := by rfl) (hline : (apos.endLine == cpos.line) = true := by rfl) : PE X (.Call (.Attribute o name apos) [] [] cpos) (tM isL r to tNil) := by
  refine ⟨fun pins s σ H Q I h => wpAny_Call_method0_late hbase hline (thn (ho.run pins s σ H _ I h) fun v s1 hx => ?_)⟩
  obtain ⟨x, H1, I1, r1, ty, q1⟩ := hx
  obtain ⟨h1, h2⟩ := tyV_is I1 r1 (isL_ty ty)
  exact ⟨_, id, PySem.F.plainAttrs_list, slot, hty, h1, h2, Calls.callWith_builtin rfl (PySem.evalArgs_none (hm pins s1 σ H1 x [] v [] Q I1 r1 .nil q1))⟩
theorem app7 : MtR X "list.append" rApp7 := mtr_imp (r := rAppend) mt_append fun x xs H Q h => h
theorem pop7 : MtR X "list.pop" rPop7 := mtr_imp (r := rPop) mt_pop fun x vs H Q ⟨l, xs, y, e1, e2, h, q⟩ => ⟨l, xs ++ [y], y, e1, e2, h, by simp, by simpa using q⟩
theorem popAt7 : MtR X "list.pop" rPopAt7 := mtr_imp (r := rPopAt) mt_popAt fun x vs H Q ⟨l, ys, v, k, e1, e2, h, hk, hv, q⟩ => ⟨l, ys, k, k, v, e1, e2, h, by omega, by omega, seq_ix (List.getElem?_eq_some_iff.mp hv).1, hv, q⟩
end
/-! ### sum, all, zip, isinstance -/
def rSum7 : List V → Hp → VK → Prop := fun vs H Q => ∃ (a : Addr) (ns : List Int), vs = [V.ref a] ∧ H a = some (.lst (ns.map V.int)) ∧ Q (.int ns.sum) H
def rAll7 : List V → Hp → VK → Prop := fun vs H Q => ∃ (a : Addr) (bs : List Bool), vs = [V.ref a] ∧ H a = some (.lst (bs.map V.bl)) ∧ Q (.bl (bs.all id)) H
def rIsInt : List V → Hp → VK → Prop := fun vs H Q => ∃ (i : Int), vs = [.int i, .ty "int"] ∧ Q (.bl true) H
def rIsBool : List V → Hp → VK → Prop := fun vs H Q => ∃ (i : Int), vs = [.int i, .ty "bool"] ∧ Q (.bl false) H
def rIsTup : List V → Hp → VK → Prop := fun vs H Q => ∃ x, vs = [x, .ty "tuple"] ∧ isT x H ∧ Q (.bl true) H
def rIsSeq : List V → Hp → VK → Prop := fun vs H Q => ∃ x p, vs = [x, .ref p] ∧ H p = some (.tup [.ty "list", .ty "tuple"]) ∧ (isL x H ∨ isT x H) ∧ Q (.bl true) H
theorem kitTL {K : PySem.W.Frag} : PySem.W.kitAny K (.type "tuple") [.type "list", .type "tuple"] = some true := by
  refine kitAny_cons (b := false) (kit_ty (by decide +kernel)) (fun _ => ?_) (fun z => nomatch z)
  exact kitAny_cons (b := true) (kit_ty (by decide +kernel)) (fun z => nomatch z) (fun _ => rfl)
section
variable {X : Cx}
theorem sum7 (hc : X.calm = true) : CallR X (.builtin "sum") rSum7 := callr_imp (cr_sum hc) fun xs H Q ⟨a, ns, e, h, q⟩ => ⟨a, ns, e, .of h, q⟩
theorem all7 (hc : X.calm = true) : CallR X (.builtin "all") rAll7 := callr_imp (cr_all hc) fun xs H Q ⟨a, ns, e, h, q⟩ => ⟨a, ns, e, .of h, q⟩
theorem isInt7 : CallR X (.builtin "isinstance") rIsInt := callr_imp call_isi fun xs H Q ⟨i, e, q⟩ => ⟨_, _, _, _, true, e, .ty _, .base (.int i), kit_ty (by decide +kernel), q⟩
theorem isBool7 : CallR X (.builtin "isinstance") rIsBool := callr_imp call_isi fun xs H Q ⟨i, e, q⟩ => ⟨_, _, _, _, false, e, .ty _, .base (.int i), kit_ty (by decide +kernel), q⟩
theorem isTup7 : CallR X (.builtin "isinstance") rIsTup := callr_imp call_isi fun xs H Q ⟨x, e, ⟨l, ys, ex, h⟩, q⟩ => by
  subst ex
  exact ⟨_, _, .type "tuple", _, true, e, .ty _, .base (.tup h), kit_ty (by decide +kernel), q⟩
theorem isSeq7 : CallR X (.builtin "isinstance") rIsSeq := callr_imp call_isiT fun xs H Q ⟨x, p, e, hp, hx, q⟩ => by
  rcases hx with ⟨l, ys, rfl, h⟩ | ⟨l, ys, rfl, h⟩
  · exact ⟨_, p, _, _, [.type "list", .type "tuple"], true, e, hp, .cons (.ty _) (.cons (.ty _) .nil), .base (.lst h), kitAny_cons (b := true) (kit_ty (by decide +kernel)) (fun z => nomatch z) fun _ => rfl, q⟩
  · exact ⟨_, p, _, _, [.type "list", .type "tuple"], true, e, hp, .cons (.ty _) (.cons (.ty _) .nil), .base (.tup h), kitTL, q⟩
end
def tNevT : TT := fun _ _ _ => False
theorem pt_nev {X : Cx} {e : Expr} : PT X e tNevT := ⟨fun _ _ _ _ _ _ h => h.elim⟩
theorem pv_int {X : Cx} {x : Str} {pos : Pos} (T : X.mg "int" = none) (hg : Gl X "int") : PE X (.Name "int" pos) (tC (.ty "int")) := pe_bltn hg T boot_int rfl
end W7
end
section
set_option Elab.async false
set_option linter.all false
set_option maxRecDepth 100000
set_option maxHeartbeats 1000000
/-! what a reading comes to: values that are plainly there (Ev), that are made anew (Rs) -/
namespace W7
open PySem PySem.Spec PyProof.Rows L2 RZ K37 K37E M7
def Ev (t : TE) (σ : L2.St) (H : Hp) (v : V) : Prop := ∀ Q : VK, Q v H → t σ H Q
def Et (c : TT) (σ : L2.St) (H : Hp) (b : Bool) : Prop := ∀ Q : Bool → Hp → Prop, Q b H → c σ H Q
def Rs (t : TE) (σ : L2.St) (H : Hp) (P : Hp → V → Prop) : Prop := ∀ Q : VK, (∀ v H', Same H H' → P H' v → Q v H') → t σ H Q
def Es (c : TT) (σ : L2.St) (H : Hp) (b : Bool) : Prop := ∀ Q : Bool → Hp → Prop, (∀ H', Same H H' → Q b H') → c σ H Q
def Ea (t : TA) (σ : L2.St) (H : Hp) (vs : List V) : Prop := ∀ Q : List V → Hp → Prop, Q vs H → t σ H Q
section
variable {σ : L2.St} {H : Hp} {ta tb tc : TE} {x y z v : V} {r : R2} {i : Nat} {K : PySem.W.Frag} {C : Addr}
theorem Ev.rs {P : Hp → V → Prop} (h : Ev ta σ H v) (p : P H v) : Rs ta σ H P := fun Q q => h _ (q v H (Same.refl H) p)
theorem Et.es {c : TT} {b : Bool} (h : Et c σ H b) : Es c σ H b := fun Q q => h _ (q H (Same.refl H))
theorem ev_v (h : σ[i]? = some (some v)) : Ev (tVar i) σ H v := fun Q q => ⟨v, h, q⟩
theorem ev_c : Ev (tC v) σ H v := fun Q q => q
theorem ev_op (ha : Ev ta σ H x) (hb : Ev tb σ H y) (h : ∀ Q : VK, Q z H → r x y H Q) : Ev (tOp r ta tb) σ H z := fun Q q => ha _ (hb _ (h Q q))
theorem ev_i2 {g : Int → Int → V} {a b : Int} (ha : Ev ta σ H (.int a)) (hb : Ev tb σ H (.int b)) : Ev (tOp (rI0 g) ta tb) σ H (g a b) := ev_op ha hb fun Q q => ⟨a, b, rfl, rfl, q⟩
theorem ev_addN {a b : Nat} (ha : Ev ta σ H (.int a)) (hb : Ev tb σ H (.int b)) : Ev (tOp (rI0 fun i j => .int (i + j)) ta tb) σ H (.int ((a + b : Nat) : Int)) := ev_i2 ha hb
theorem ev_mulC {a b : Int} (ha : Ev ta σ H (.int a)) (hb : Ev tb σ H (.int b)) (h : CMul a b) : Ev (tOp (rI CMul fun i j => .int (i * j)) ta tb) σ H (.int (a * b)) := ev_op ha hb fun Q q => ⟨a, b, rfl, rfl, h, q⟩
theorem ev_mulN {a b : Nat} (ha : Ev ta σ H (.int a)) (hb : Ev tb σ H (.int b)) (h : a < 2 ^ 60) : Ev (tOp (rI CMul fun i j => .int (i * j)) ta tb) σ H (.int ((a * b : Nat) : Int)) := ev_mulC ha hb (.inl ⟨by omega, by omega⟩)
theorem ev_divN {a b : Nat} (ha : Ev ta σ H (.int a)) (hb : Ev tb σ H (.int b)) (h0 : 0 < b) (h : b < 2 ^ 29) : Ev (tOp (rI CDivN fun i j => .int (i.fdiv j)) ta tb) σ H (.int ((a / b : Nat) : Int)) := ev_op ha hb fun Q q => ⟨a, b, rfl, rfl, ⟨by omega, by omega⟩, by
  have e : (a : Int).fdiv (b : Int) = ((a / b : Nat) : Int) := by
    rw [Int.fdiv_eq_ediv_of_nonneg _ (by omega)]
    rfl
  show Q (.int ((a : Int).fdiv (b : Int))) H
  rw [e]
  exact q⟩
theorem ev_modN {a b : Nat} (ha : Ev ta σ H (.int a)) (hb : Ev tb σ H (.int b)) (h0 : 0 < b) : Ev (tOp (rI (fun _ j => j ≠ 0) fun i j => .int (i.fmod j)) ta tb) σ H (.int ((a % b : Nat) : Int)) := ev_op ha hb fun Q q => ⟨a, b, rfl, rfl, by omega, by
  have e : (a : Int).fmod (b : Int) = ((a % b : Nat) : Int) := by
    rw [Int.fmod_eq_emod_of_nonneg _ (by omega)]
    rfl
  show Q (.int ((a : Int).fmod (b : Int))) H
  rw [e]
  exact q⟩
theorem ev_subN {a b : Nat} (ha : Ev ta σ H (.int a)) (hb : Ev tb σ H (.int b)) (h : b ≤ a) : Ev (tOp (rI0 fun i j => .int (i - j)) ta tb) σ H (.int ((a - b : Nat) : Int)) := by
  have e : ((a - b : Nat) : Int) = (a : Int) - (b : Int) := by omega
  rw [e]
  exact ev_i2 ha hb
theorem ev_ltN {a b : Nat} (ha : Ev ta σ H (.int a)) (hb : Ev tb σ H (.int b)) : Ev (tOp (rI0 fun i j => .bl (decide (i < j))) ta tb) σ H (.bl (decide (a < b))) := by
  have e : decide (a < b) = decide ((a : Int) < (b : Int)) := decide_eq_decide.mpr (by omega)
  rw [e]
  exact ev_i2 ha hb
theorem ev_leN {a b : Nat} (ha : Ev ta σ H (.int a)) (hb : Ev tb σ H (.int b)) : Ev (tOp (rI0 fun i j => .bl (decide (i ≤ j))) ta tb) σ H (.bl (decide (a ≤ b))) := by
  have e : decide (a ≤ b) = decide ((a : Int) ≤ (b : Int)) := decide_eq_decide.mpr (by omega)
  rw [e]
  exact ev_i2 ha hb
theorem ev_gtN {a b : Nat} (ha : Ev ta σ H (.int a)) (hb : Ev tb σ H (.int b)) : Ev (tOp (rI0 fun i j => .bl (decide (j < i))) ta tb) σ H (.bl (decide (b < a))) := by
  have e : decide (b < a) = decide ((b : Int) < (a : Int)) := decide_eq_decide.mpr (by omega)
  rw [e]
  exact ev_i2 ha hb
theorem vint_iff {a b : Nat} : decide (V.int (a : Int) = V.int (b : Int)) = decide (a = b) := decide_eq_decide.mpr ⟨fun h => by injection h with h; omega, fun h => by rw [h]⟩
theorem ev_eqN {a b : Nat} (ha : Ev ta σ H (.int a)) (hb : Ev tb σ H (.int b)) : Ev (tOp rEq ta tb) σ H (.bl (decide (a = b))) := ev_op ha hb fun Q q => ⟨rfl, by rw [vint_iff]; exact q⟩
theorem ev_neN {a b : Nat} (ha : Ev ta σ H (.int a)) (hb : Ev tb σ H (.int b)) : Ev (tOp rNe ta tb) σ H (.bl (!decide (a = b))) := ev_op ha hb fun Q q => ⟨rfl, by rw [vint_iff]; exact q⟩
theorem ev_ixTv {vs : List V} {p : Addr} {j : Nat} (ha : Ev ta σ H (.ref p)) (h : H p = some (.tup vs)) (hb : Ev tb σ H (.int j)) (e : vs[j]? = some v) : Ev (tOp ixT ta tb) σ H v := ev_op ha hb fun Q q => ⟨p, vs, v, j, rfl, rfl, h, e, q⟩
theorem ev_ixLv {vs : List V} {p : Addr} {j : Nat} (ha : Ev ta σ H (.ref p)) (h : H p = some (.lst vs)) (hb : Ev tb σ H (.int j)) (e : vs[j]? = some v) : Ev (tOp ixL ta tb) σ H v := ev_op ha hb fun Q q => ⟨p, vs, v, j, rfl, rfl, h, e, q⟩
theorem ev_ixT {ns : List Nat} {j : Nat} (ha : Ev ta σ H x) (h : Tn H x ns) (hb : Ev tb σ H (.int j)) (hj : j < ns.length) : Ev (tOp ixT ta tb) σ H (.int (at' ns j : Nat)) := by
  obtain ⟨p, rfl, h⟩ := h
  exact ev_ixTv ha h hb (nv_at hj)
theorem ev_ixL {ns : List Nat} {j : Nat} (ha : Ev ta σ H x) (h : Ln H x ns) (hb : Ev tb σ H (.int j)) (hj : j < ns.length) : Ev (tOp ixL ta tb) σ H (.int (at' ns j : Nat)) := by
  obtain ⟨p, rfl, h⟩ := h
  exact ev_ixLv ha h hb (nv_at hj)
theorem row_get {t : List (List Nat)} {x : Nat} (hx : x < t.length) : t[x]? = some (t.getD x []) := by
  rw [List.getElem?_eq_getElem hx, row_getD hx]
/-- t[x][y] of a table -/
theorem ev_tt {t : List (List Nat)} {a b : Nat} (ha : Ev ta σ H x) (h : Tt H x t) (hb : Ev tb σ H (.int a)) (hc : Ev tc σ H (.int b)) (h1 : a < t.length) (h2 : b < (t.getD a []).length) : Ev (tOp ixT (tOp ixT ta tb) tc) σ H (.int (mul t a b : Nat)) := by
  obtain ⟨p, vs, rfl, h, pr⟩ := h
  obtain ⟨u, e, hu⟩ := prd_at pr (row_get h1)
  exact ev_ixT (ev_ixTv ha h hb e) hu hc h2
theorem ev_lt2 {t : List (List Nat)} {a b : Nat} (ha : Ev ta σ H x) (h : Lt H x t) (hb : Ev tb σ H (.int a)) (hc : Ev tc σ H (.int b)) (h1 : a < t.length) (h2 : b < (t.getD a []).length) : Ev (tOp ixT (tOp ixL ta tb) tc) σ H (.int (mul t a b : Nat)) := by
  obtain ⟨p, vs, rfl, h, pr⟩ := h
  obtain ⟨u, e, hu⟩ := prd_at pr (row_get h1)
  exact ev_ixT (ev_ixLv ha h hb e) hu hc h2
theorem ev_n {t : List (List Nat)} (ha : Ev ta σ H x) (h : SG C H x t) : Ev (tFn C ta) σ H (.int (t.length : Nat)) := fun Q q => ha _ ⟨t, h, q⟩
theorem sq_row {t : List (List Nat)} (s : Sq t) {a : Nat} (h : a < t.length) : (t.getD a []).length = t.length := by
  have e : t.getD a [] = t[a] := row_getD h
  rw [e]
  exact (s.row _ (List.getElem_mem h)).1
theorem ev_tab {t : List (List Nat)} {a b : Nat} (s : Sq t) (ha : Ev ta σ H x) (h : SG C H x t) (hb : Ev tb σ H (.int a)) (hc : Ev tc σ H (.int b)) (h1 : a < t.length) (h2 : b < t.length) : Ev (tOp ixT (tOp ixT (tFt C ta) tb) tc) σ H (.int (mul t a b : Nat)) := by
  obtain ⟨tv, h⟩ := h
  have e : Ev (tFt C ta) σ H tv := fun Q q => ha _ ⟨t, tv, h, q⟩
  obtain ⟨p, dx, e1, e2, e3⟩ := h
  exact ev_tt e e3 hb hc h1 (by rw [sq_row s h1]; exact h2)
theorem ev_lenT {p : Addr} {vs : List V} (ha : Ev ta σ H (.ref p)) (h : H p = some (.tup vs)) : Ev (tCB rLen7 (tCons ta tNil)) σ H (.int (vs.length : Nat)) := fun Q q => ha _ ⟨p, vs, rfl, .inr h, q⟩
theorem ev_lenL {p : Addr} {vs : List V} (ha : Ev ta σ H (.ref p)) (h : H p = some (.lst vs)) : Ev (tCB rLen7 (tCons ta tNil)) σ H (.int (vs.length : Nat)) := fun Q q => ha _ ⟨p, vs, rfl, .inl h, q⟩
theorem ev_lenTn {ns : List Nat} (ha : Ev ta σ H x) (h : Tn H x ns) : Ev (tCB rLen7 (tCons ta tNil)) σ H (.int (ns.length : Nat)) := by
  obtain ⟨p, rfl, h⟩ := h
  have := ev_lenT ha h
  rwa [nv_len] at this
theorem ev_lenTt {t : List (List Nat)} (ha : Ev ta σ H x) (h : Tt H x t) : Ev (tCB rLen7 (tCons ta tNil)) σ H (.int (t.length : Nat)) := by
  obtain ⟨p, vs, rfl, h, pr⟩ := h
  have := ev_lenT ha h
  rwa [prd_len pr] at this
theorem ev_lenLt {t : List (List Nat)} (ha : Ev ta σ H x) (h : Lt H x t) : Ev (tCB rLen7 (tCons ta tNil)) σ H (.int (t.length : Nat)) := by
  obtain ⟨p, vs, rfl, h, pr⟩ := h
  have := ev_lenL ha h
  rwa [prd_len pr] at this
theorem ev_lenLn {ns : List Nat} (ha : Ev ta σ H x) (h : Ln H x ns) : Ev (tCB rLen7 (tCons ta tNil)) σ H (.int (ns.length : Nat)) := by
  obtain ⟨p, rfl, h⟩ := h
  have := ev_lenL ha h
  rwa [nv_len] at this
theorem ev_min {a b : Nat} (ha : Ev ta σ H (.int a)) (hb : Ev tb σ H (.int b)) : Ev (tCB (fun xs H Q => ∃ i j, xs = [.int i, .int j] ∧ Q (.int (if j < i then j else i)) H) (tCons ta (tCons tb tNil))) σ H (.int (min a b : Nat)) := fun Q q => ha _ (hb _ ⟨a, b, rfl, by
  have e : (if (b : Int) < (a : Int) then (b : Int) else (a : Int)) = ((min a b : Nat) : Int) := by
    split <;> omega
  rw [e]
  exact q⟩)
theorem ev_max {a b : Nat} (ha : Ev ta σ H (.int a)) (hb : Ev tb σ H (.int b)) : Ev (tCB (fun xs H Q => ∃ i j, xs = [.int i, .int j] ∧ Q (.int (if j > i then j else i)) H) (tCons ta (tCons tb tNil))) σ H (.int (max a b : Nat)) := fun Q q => ha _ (hb _ ⟨a, b, rfl, by
  have e : (if (b : Int) > (a : Int) then (b : Int) else (a : Int)) = ((max a b : Nat) : Int) := by
    split <;> omega
  rw [e]
  exact q⟩)
/-! tests -/
theorem et_t {b : Bool} (h : Ev ta σ H (.bl b)) : Et (tTest ta) σ H b := fun Q q => h _ ⟨b, rfl, q⟩
theorem et_b {b : Bool} (h : Ev ta σ H (.bl b)) : Et (tB ta) σ H b := fun Q q => h _ ⟨b, rfl, q⟩
theorem et_not {c : TT} {b : Bool} (h : Et c σ H b) : Et (tNot c) σ H (!b) := fun Q q => h _ q
theorem es_not {c : TT} {b : Bool} (h : Es c σ H b) : Es (tNot c) σ H (!b) := fun Q q => h _ fun H' s => q H' s
theorem et_and {c d : TT} {a b : Bool} (h : Et c σ H a) (k : a = true → Et d σ H b) : Et (tAnd c d) σ H (a && b) := fun Q q => h _ (by
  cases a with
  | true => exact iteT (k rfl _ q)
  | false => exact iteF q)
theorem et_or {c d : TT} {a b : Bool} (h : Et c σ H a) (k : a = false → Et d σ H b) : Et (tOr c d) σ H (a || b) := fun Q q => h _ (by
  cases a with
  | true => exact iteT q
  | false => exact iteF (k rfl _ q))
theorem es_t {b : Bool} (h : Rs ta σ H fun _ v => v = .bl b) : Es (tTest ta) σ H b := fun Q q => h _ fun v H' s e => ⟨b, e, q H' s⟩
theorem es_b {b : Bool} (h : Rs ta σ H fun _ v => v = .bl b) : Es (tB ta) σ H b := fun Q q => h _ fun v H' s e => ⟨b, e, q H' s⟩
theorem es_or {c d : TT} {a b : Bool} (h : Es c σ H a) (k : a = false → ∀ H', Same H H' → Es d σ H' b) : Es (tOr c d) σ H (a || b) := fun Q q => h _ fun H' s => by
  cases a with
  | true => exact iteT (q H' s)
  | false => exact iteF (k rfl H' s _ fun H2 s2 => q H2 (s.trans s2))
theorem es_and {c d : TT} {a b : Bool} (h : Es c σ H a) (k : a = true → ∀ H', Same H H' → Es d σ H' b) : Es (tAnd c d) σ H (a && b) := fun Q q => h _ fun H' s => by
  cases a with
  | true => exact iteT (k rfl H' s _ fun H2 s2 => q H2 (s.trans s2))
  | false => exact iteF (q H' s)
end
/-! statements -/
section
variable {nx bk ct : L2.St → Hp → Prop} {rt : VK} {σ : L2.St} {H : Hp} {t u : TS} {te : TE} {c : TT}
theorem sq_ (h : t ⟨u ⟨nx, rt, bk, ct⟩, rt, bk, ct⟩ σ H) : tSeq t u ⟨nx, rt, bk, ct⟩ σ H := h
theorem if_ {b : Bool} (h : Et c σ H b) (h1 : b = true → t ⟨nx, rt, bk, ct⟩ σ H) (h2 : b = false → u ⟨nx, rt, bk, ct⟩ σ H) : tIfS c t u ⟨nx, rt, bk, ct⟩ σ H := h _ (by
  cases b with
  | true => exact iteT (h1 rfl)
  | false => exact iteF (h2 rfl))
theorem ifs_ {b : Bool} (h : Es c σ H b) (h1 : b = true → ∀ H', Same H H' → t ⟨nx, rt, bk, ct⟩ σ H') (h2 : b = false → ∀ H', Same H H' → u ⟨nx, rt, bk, ct⟩ σ H') : tIfS c t u ⟨nx, rt, bk, ct⟩ σ H := h _ fun H' s => by
  cases b with
  | true => exact iteT (h1 rfl H' s)
  | false => exact iteF (h2 rfl H' s)
theorem ifn_ {b : Bool} (h : Et c σ H b) (h1 : b = true → t ⟨nx, rt, bk, ct⟩ σ H) (h2 : b = false → nx σ H) : tIfS c t tNext ⟨nx, rt, bk, ct⟩ σ H := if_ h h1 h2
theorem ifsn_ {b : Bool} (h : Es c σ H b) (h1 : b = true → ∀ H', Same H H' → t ⟨nx, rt, bk, ct⟩ σ H') (h2 : b = false → ∀ H', Same H H' → nx σ H') : tIfS c t tNext ⟨nx, rt, bk, ct⟩ σ H := ifs_ h h1 h2
theorem chk_ (h : Et c σ H false) (k : nx σ H) : tIfS c t tNext ⟨nx, rt, bk, ct⟩ σ H := if_ h (fun z => nomatch z) fun _ => k
theorem chks_ (h : Es c σ H false) (k : ∀ H', Same H H' → nx σ H') : tIfS c t tNext ⟨nx, rt, bk, ct⟩ σ H := ifs_ h (fun z => nomatch z) fun _ => k
theorem et_of {a b : Bool} (h : Et c σ H a) (e : a = b) : Et c σ H b := e ▸ h
theorem es_of {a b : Bool} (h : Es c σ H a) (e : a = b) : Es c σ H b := e ▸ h
theorem set_ {v : V} {i : Nat} (h : Ev te σ H v) (k : nx (σ.set i (some v)) H) : tAsg te (gName i) ⟨nx, rt, bk, ct⟩ σ H := h _ k
theorem sets_ {P : Hp → V → Prop} {i : Nat} (h : Rs te σ H P) (k : ∀ v H', Same H H' → P H' v → nx (σ.set i (some v)) H') : tAsg te (gName i) ⟨nx, rt, bk, ct⟩ σ H := h _ k
theorem ret_ {v : V} (h : Ev te σ H v) (k : rt v H) : tRet te ⟨nx, rt, bk, ct⟩ σ H := h _ k
theorem rets_ {P : Hp → V → Prop} (h : Rs te σ H P) (k : ∀ v H', Same H H' → P H' v → rt v H') : tRet te ⟨nx, rt, bk, ct⟩ σ H := h _ k
/-- loops -/
theorem forR_ {ta : TE} {g : TG} {tb : TS} {n : Nat} (hn : Ev ta σ H (.int (n : Nat))) (hs : n ≤ sizeLine) (I : Nat → L2.St → Hp → Prop) (h0 : I 0 σ H)
    (turn : ∀ i σ H, i < n → I i σ H → g (.int (i : Nat)) σ H fun σ2 H2 => tb ⟨I (i + 1), rt, nx, I (i + 1)⟩ σ2 H2) (done : ∀ σ H, I n σ H → nx σ H) : tFor (iRng1 (tCons ta tNil)) g tb ⟨nx, rt, bk, ct⟩ σ H := by
  have h2 : sizeLine < 2 ^ 62 := by decide
  refine hn _ ⟨n, rfl, by omega, by omega, ?_⟩
  rw [Int.toNat_natCast]
  refine for_range (lo := 0) (n := n) I h0 (fun i σ H hi h => ?_) done
  rw [Int.zero_add]
  exact turn i σ H hi h
theorem forL_ {K : PySem.W.Frag} {ta : TE} {g : TG} {tb : TS} {p : Addr} {xs : List V} (hn : Ev ta σ H (.ref p)) (hp : H p = some (.lst xs)) (I : Nat → L2.St → Hp → Prop) (h0 : I 0 σ H) (hl : ∀ i σ H, I i σ H → H p = some (.lst xs))
    (turn : ∀ i x σ H, xs[i]? = some x → I i σ H → g x σ H fun σ2 H2 => tb ⟨I (i + 1), rt, nx, I (i + 1)⟩ σ2 H2) (done : ∀ σ H, I xs.length σ H → nx σ H) : tFor (iList K ta) g tb ⟨nx, rt, bk, ct⟩ σ H := by
  refine hn _ ⟨p, rfl, ⟨xs, .of hp⟩, ?_⟩
  exact for_list (K := K) (xs := xs) I h0 (fun i σ H _ h => .of (hl i σ H h)) turn done
theorem forT_ {K : PySem.W.Frag} {ta : TE} {g : TG} {tb : TS} {p : Addr} {xs : List V} (hn : Ev ta σ H (.ref p)) (hp : H p = some (.tup xs)) (I : Nat → L2.St → Hp → Prop) (h0 : I 0 σ H) (hl : ∀ i σ H, I i σ H → H p = some (.tup xs))
    (turn : ∀ i x σ H, xs[i]? = some x → I i σ H → g x σ H fun σ2 H2 => tb ⟨I (i + 1), rt, nx, I (i + 1)⟩ σ2 H2) (done : ∀ σ H, I xs.length σ H → nx σ H) : tFor (iTup K ta) g tb ⟨nx, rt, bk, ct⟩ σ H := by
  refine hn _ ⟨p, rfl, ⟨xs, .of hp⟩, ?_⟩
  exact for_tup (K := K) (xs := xs) I h0 (fun i σ H _ h => .of (hl i σ H h)) turn done
end
/-! comprehensions -/
section
variable {σ : L2.St} {H : Hp} {i : Nat} {tt : TT} {te el : TE} {Q : VK}
theorem wipe1 : wipe σ [i] = σ.set i none := rfl
theorem set2 {a b : Option V} : (σ.set i a).set i b = σ.set i b := List.set_set ..
/-- the turns of a comprehension -/
structure LcB (σ : L2.St) (H : Hp) (i : Nat) (tt : TT) (el : TE) (n : Nat) (x : Nat → V) (b : Nat → Bool) (r : Nat → Hp → V → Prop) : Prop where
  test : ∀ j H', j < n → Same H H' → Es tt (σ.set i (some (x j))) H' (b j)
  item : ∀ j H', j < n → b j = true → Same H H' → Rs el (σ.set i (some (x j))) H' (r j)
  im : ∀ j H1 H2 v, Fx H1 H2 → r j H1 v → r j H2 v
  small : n ≤ sizeLine
def Acc (H : Hp) (D : Addr) (b : Nat → Bool) (r : Nat → Hp → V → Prop) (j : Nat) (H' : Hp) : Prop := Same H H' ∧ ∃ vs, H' D = some (.lst vs) ∧ Paired (fun v k => r k H' v) vs ((List.range j).filter b)
theorem acc0 {D : Addr} {b : Nat → Bool} {r : Nat → Hp → V → Prop} (h : H D = none) : Acc H D b r 0 (upd H D (.lst [])) := ⟨same_new h, [], upd_same, .nil⟩
theorem range_filter_succ (b : Nat → Bool) (j : Nat) : (List.range (j + 1)).filter b = (List.range j).filter b ++ if b j = true then [j] else [] := by
  rw [List.range_succ, List.filter_append]
  congr 1
  by_cases h : b j = true
  · rw [if_pos h, List.filter_cons_of_pos h]; rfl
  · rw [if_neg h, List.filter_cons_of_neg h]; rfl
theorem LcB.turn {n : Nat} {x : Nat → V} {b : Nat → Bool} {r : Nat → Hp → V → Prop} (B : LcB σ H i tt el n x b r) {D : Addr} (hD : H D = none) {j : Nat} {H' : Hp} (hj : j < n) (h : Acc H D b r j H') :
    gName i (x j) (wipe σ [i]) H' fun σ2 H2 => wipe σ2 [i] = wipe σ [i] ∧ tt σ2 H2 fun c H3 => if c = true then el σ2 H3 fun y H4 => ∃ acc, H4 D = some (.lst acc) ∧ acc.length < sizeLine ∧ Acc H D b r (j + 1) (upd H4 D (.lst (acc ++ [y]))) else Acc H D b r (j + 1) H3 := by
  have ew : (wipe σ [i]).set i (some (x j)) = σ.set i (some (x j)) := set2
  unfold gName
  rw [ew]
  refine ⟨by rw [wipe1, wipe1, set2], B.test j H' hj h.1 _ fun H3 s3 => ?_⟩
  obtain ⟨s, vs, e, p⟩ := h
  cases hb : b j with
  | false =>
    refine iteF ⟨s.trans s3, vs, s3 _ _ e, ?_⟩
    rw [range_filter_succ, hb, if_neg (by decide), List.append_nil]
    exact prd_imp p fun v k q => B.im k _ _ v (fx_of s3) q
  | true =>
    refine iteT (B.item j H3 hj hb (s.trans s3) _ fun y H4 s4 q => ⟨vs, s4 _ _ (s3 _ _ e), ?_, ?_⟩)
    · rw [prd_len p]
      have : ((List.range j).filter b).length ≤ j := by
        have := List.length_filter_le b (List.range j)
        rwa [List.length_range] at this
      have := B.small
      omega
    · have e4 : H4 D = some (.lst vs) := s4 _ _ (s3 _ _ e)
      refine ⟨same_put ((s.trans s3).trans s4) hD, vs ++ [y], upd_same, ?_⟩
      rw [range_filter_succ, hb, if_pos rfl]
      refine prd_app (prd_imp p fun v k q' => B.im k _ _ v ((fx_of (s3.trans s4)).trans (fx_put e4)) q') (prd_one (B.im j _ _ y (fx_put e4) q))
theorem LcB.range {n : Nat} {b : Nat → Bool} {r : Nat → Hp → V → Prop} (B : LcB σ H i tt el n (fun j => .int (j : Nat)) b r) (hn : Ev te σ H (.int (n : Nat)))
    (k : ∀ D H' vs, H D = none → Same H H' → H' D = some (.lst vs) → Paired (fun v j => r j H' v) vs ((List.range n).filter b) → Q (.ref D) H') : tLc (iRng1 (tCons te tNil)) (gName i) tt el [i] σ H Q := by
  have hs := B.small
  have h2 : sizeLine < 2 ^ 62 := by decide
  refine hn _ ⟨n, rfl, by omega, by omega, fun D hD => ?_⟩
  rw [Int.toNat_natCast]
  refine lc_range (Acc H D b r) (acc0 hD) (fun j H' hj h => ?_) fun H' h => k D H' _ hD h.1 h.2.choose_spec.1 h.2.choose_spec.2
  rw [Int.zero_add]
  exact B.turn hD hj h
theorem LcB.list {K : PySem.W.Frag} {p : Addr} {xs : List V} {x : Nat → V} {b : Nat → Bool} {r : Nat → Hp → V → Prop} (B : LcB σ H i tt el xs.length x b r) (hn : Ev te σ H (.ref p)) (hp : H p = some (.lst xs)) (hx : ∀ j, j < xs.length → xs[j]? = some (x j))
    (k : ∀ D H' vs, H D = none → Same H H' → H' D = some (.lst vs) → Paired (fun v j => r j H' v) vs ((List.range xs.length).filter b) → Q (.ref D) H') : tLc (iList K te) (gName i) tt el [i] σ H Q := by
  refine hn _ ⟨p, rfl, ⟨xs, .of hp⟩, fun D hD => ?_⟩
  refine lc_list (K := K) (xs := xs) (Acc H D b r) (acc0 hD) (fun j H' _ h => .of (h.1 _ _ hp)) (fun j v H' hv h => ?_) fun H' h => k D H' _ hD h.1 h.2.choose_spec.1 h.2.choose_spec.2
  have hj := (List.getElem?_eq_some_iff.mp hv).1
  rw [hx j hj] at hv
  cases hv
  exact B.turn hD hj h
theorem LcB.tup {K : PySem.W.Frag} {p : Addr} {xs : List V} {x : Nat → V} {b : Nat → Bool} {r : Nat → Hp → V → Prop} (B : LcB σ H i tt el xs.length x b r) (hn : Ev te σ H (.ref p)) (hp : H p = some (.tup xs)) (hx : ∀ j, j < xs.length → xs[j]? = some (x j))
    (k : ∀ D H' vs, H D = none → Same H H' → H' D = some (.lst vs) → Paired (fun v j => r j H' v) vs ((List.range xs.length).filter b) → Q (.ref D) H') : tLc (iTup K te) (gName i) tt el [i] σ H Q := by
  refine hn _ ⟨p, rfl, ⟨xs, .of hp⟩, fun D hD => ?_⟩
  refine lc_tup (K := K) (xs := xs) (Acc H D b r) (acc0 hD) (fun j H' _ h => .of (h.1 _ _ hp)) (fun j v H' hv h => ?_) fun H' h => k D H' _ hD h.1 h.2.choose_spec.1 h.2.choose_spec.2
  have hj := (List.getElem?_eq_some_iff.mp hv).1
  rw [hx j hj] at hv
  cases hv
  exact B.turn hD hj h
end
end W7
end
section
set_option Elab.async false
set_option linter.all false
set_option maxRecDepth 100000
set_option maxHeartbeats 1000000
namespace W7
open PySem PySem.Spec PyProof.Rows L2 RZ K37 K37E M7
section
variable {P : Program} {w : World} {K : PySem.W.Frag} {mg : Str → Option Value} {base : Heap} {C : Addr}
def spInt : Sp := fun vs H Q _ => ∃ i : Int, vs = [.int i] ∧ Q (.bl true) H
theorem sc_is_integer : FnScope ["value"] ["value"] (defScope s_is_integer) := ⟨rfl, rfl, rfl, by decide +kernel, rfl, by decide +kernel, by decide +kernel⟩
theorem h_is_integer (D : Dfn K mg "is_integer" s_is_integer) (T : Bl mg)  : Has P w K mg base "is_integer" ["value"] 1 (spInt) := by
  refine D.has sc_is_integer (fun _ _ _ _ _ _ us hl => match us, hl with | [_], _ => rfl) (fun vs H Q E h => by obtain ⟨i, rfl, _⟩ := h; rfl) (fun f cdv A outer s H vs Q E hr h => ⟨_, (pss_one (ps_ret (pe_and (pe_callB isInt7 (by rfl) T.isinstance (by decide +kernel) (pa_cons (pv 0) (pa_cons (pe_bltn (v := .ty "int") (by rfl) T.int boot_int rfl) pa_nil))) (pe_one (pe_not (pe_callB isBool7 (by rfl) T.isinstance (by decide +kernel) (pa_cons (pv 0) (pa_cons (pe_bltn (v := .ty "bool") (by rfl) T.bool boot_bool rfl) pa_nil)))))))), ?_⟩)
  obtain ⟨i, rfl, q⟩ := h
  exact ⟨_, rfl, i, rfl, true, rfl, iteT ⟨_, rfl, i, rfl, false, rfl, q⟩⟩
def spItem : Sp := fun vs H Q _ => ∃ x n : Nat, vs = [.int (x : Int), .int (n : Int)] ∧ x < n ∧ Q (.bl true) H
theorem sc_is_item : FnScope ["value", "n"] ["value", "n"] (defScope s_is_item) := ⟨rfl, rfl, rfl, by decide +kernel, rfl, by decide +kernel, by decide +kernel⟩
theorem h_is_item (D : Dfn K mg "is_item" s_is_item) (T : Bl mg) (H_is_integer : Has P w K mg base "is_integer" ["value"] 1 spInt) : Has P w K mg base "is_item" ["value", "n"] 2 (spItem) := by
  refine D.has sc_is_item (fun _ _ _ _ _ _ us hl => match us, hl with | [_, _], _ => rfl) (fun vs H Q E h => by obtain ⟨x, n, rfl, _⟩ := h; rfl) (fun f cdv A outer s H vs Q E hr h => ⟨_, (pss_one (ps_ret (pe_and (pe_has H_is_integer (hr.mono (by decide)) (pa_cons (pv 0) pa_nil)) (pe_one (pe_chain op_le op_lt pe_int (pv 0) (pv 1)))))), ?_⟩)
  obtain ⟨x, n, rfl, hx, q⟩ := h
  refine ⟨_, rfl, x, rfl, true, rfl, iteT ⟨_, rfl, 0, x, rfl, rfl, _, rfl, ?_⟩⟩
  rw [decide_eq_true (by omega : (0 : Int) ≤ x)]
  refine iteT ⟨_, rfl, x, n, rfl, rfl, ?_⟩
  show Q (.bl (decide ((x : Int) < (n : Int)))) H
  rw [decide_eq_true (by omega : (x : Int) < n)]
  exact q
def spEqv : Sp := fun vs H Q _ => ∃ (v : V) (n : Nat) (c : List Nat), vs = [v, .int (n : Int)] ∧ Tn H v c ∧ Canon n c ∧ n ≤ 1000 ∧ Q (.bl true) H
theorem sc_is_equivalence : FnScope ["value", "n", "x"] ["value", "n"] (defScope s_is_equivalence) := ⟨rfl, rfl, rfl, by decide +kernel, rfl, by decide +kernel, by decide +kernel⟩
theorem h_is_equivalence (D : Dfn K mg "is_equivalence" s_is_equivalence) (T : Bl mg) (H_is_integer : Has P w K mg base "is_integer" ["value"] 1 spInt) : Has P w K mg base "is_equivalence" ["value", "n"] 2 (spEqv) := by
  refine D.has sc_is_equivalence (fun _ _ _ _ _ _ us hl => match us, hl with | [_, _], _ => rfl) (fun vs H Q E h => by obtain ⟨v, n, c, rfl, _⟩ := h; rfl) (fun f cdv A outer s H vs Q E hr h => ⟨_, (pss_cons (ps_if (PW.pt (pw_or (pt_not (pt_val (pe_callB isTup7 (by rfl) T.isinstance (by decide +kernel) (pa_cons (pv 0) (pa_cons (pe_bltn (v := .ty "tuple") (by rfl) T.tuple boot_tuple rfl) pa_nil))))) (pw_or1 (pt_cmpR op_ne (pe_callB len7 (by rfl) T.len (by decide +kernel) (pa_cons (pv 0) pa_nil)) (pv 1) (nomark _))))) (pss_one (ps_ret pe_bl)) pss_nil)
      (pss_cons (ps_for PassesOwn.never (by rfl) (pi_range1 (by rfl) T.range (pa_cons (pv 1) pa_nil)) (pg_name (i := 2) sc_is_equivalence.nd rfl (Or.inl rfl)) (pss_cons (ps_if (PW.pt (pw_or (pt_not (pt_val (pe_has H_is_integer (hr.mono (by decide)) (pa_cons (pe_ix ix7T (pv 0) (pv 2) (fun _ _ => rfl)) pa_nil)))) (pw_or (pt_cmpR op_lt (pe_ix ix7T (pv 0) (pv 2) (fun _ _ => rfl)) pe_int (nomark _)) (pw_or1 (pt_cmpR op_gt (pe_ix ix7T (pv 0) (pv 2) (fun _ _ => rfl)) (pv 2) (nomark _)))))) (pss_one (ps_ret pe_bl)) pss_nil)
      (pss_one (ps_if (pt_cmpR op_ne (pe_ix ix7T (pv 0) (pe_ix ix7T (pv 0) (pv 2) (fun _ _ => rfl)) (fun _ _ => rfl)) (pe_ix ix7T (pv 0) (pv 2) (fun _ _ => rfl)) (nomark _)) (pss_one (ps_ret pe_bl)) pss_nil))))
      (pss_one (ps_ret pe_bl)))), ?_⟩)
  obtain ⟨v, n, c, rfl, hv, hc, hn, q⟩ := h
  obtain ⟨p, rfl, hp⟩ := id hv
  have el : c.length = n := hc.len
  refine sq_ (chk_ (et_or (a := false) (b := false) (et_not (b := true) (et_b fun Q q => ⟨_, rfl, _, rfl, ⟨_, _, rfl, hp⟩, q⟩)) fun _ => et_of (et_t (ev_neN (ev_lenTn (ev_v (i := 0) rfl) hv) (ev_v (i := 1) rfl))) (by simp [el])) ?_)
  refine sq_ (forR_ (n := n) (ev_v rfl) (by have : 1000 < sizeLine := by decide
                                            omega) (fun i σ H' => H' = H ∧ ∃ x, σ = [some (.ref p), some (.int n), x]) ⟨rfl, none, rfl⟩ (fun i σ H' hi hσ => ?_) fun σ H' hσ => ?_)
  · obtain ⟨rfl, x, rfl⟩ := hσ
    have hi2 : i < c.length := by omega
    have h2 := hc.le i hi
    have evv : Ev (tOp ixT (tVar 0) (tVar 2)) [some (.ref p), some (.int n), some (.int i)] H' (.int (at' c i : Nat)) := ev_ixT (ev_v rfl) hv (ev_v rfl) hi2
    refine sq_ (chk_ (et_or (a := false) (b := false) (et_not (b := true) (et_b fun Q q => evv _ ⟨_, rfl, q⟩)) fun _ => et_or (a := false) (b := false) (et_t ?_) fun _ => et_t ?_) (chk_ (et_t ?_) ?_))
    · have := ev_ltN evv (ev_c (v := .int (0 : Nat)))
      rw [decide_eq_false (by omega : ¬ at' c i < 0)] at this
      exact this
    · have := ev_gtN evv (ev_v (i := 2) (v := .int (i : Nat)) rfl)
      rw [decide_eq_false (by omega : ¬ i < at' c i)] at this
      exact this
    · have := ev_neN (ev_ixT (ev_v (i := 0) rfl) hv evv (by omega)) evv
      rw [hc.fix i hi, decide_eq_true rfl] at this
      exact this
    · exact ⟨rfl, _, rfl⟩
  · obtain ⟨rfl, x, rfl⟩ := hσ
    exact q
end
end W7
end
section
set_option Elab.async false
set_option linter.all false
set_option maxRecDepth 100000
set_option maxHeartbeats 1000000
namespace W7
open PySem PySem.Spec PyProof.Rows L2 RZ K37 K37E M7
theorem sl1000 {n : Nat} (h : n ≤ 1000) : n ≤ sizeLine := Nat.le_of_lt (small1000 h)
theorem Ln.same {H H' : Hp} {v : V} {ns : List Nat} (h : Ln H v ns) (s : Same H H') : Ln H' v ns := let ⟨a, e, q⟩ := h; ⟨a, e, s _ _ q⟩
theorem Tn.same {H H' : Hp} {v : V} {ns : List Nat} (h : Tn H v ns) (s : Same H H') : Tn H' v ns := h.fx (fx_of s)
theorem Tt.same {H H' : Hp} {v : V} {t : List (List Nat)} (h : Tt H v t) (s : Same H H') : Tt H' v t := h.fx (fx_of s)
theorem SG.same {C : Addr} {H H' : Hp} {v : V} {t : List (List Nat)} (h : SG C H v t) (s : Same H H') : SG C H' v t := h.fx (fx_of s)
theorem Lt.same {H H' : Hp} {v : V} {t : List (List Nat)} (h : Lt H v t) (s : Same H H') : Lt H' v t := let ⟨a, vs, e, q, p⟩ := h; ⟨a, vs, e, s _ _ q, tns_fx p (fx_of s)⟩
theorem nv_range (n : Nat) : rgV 0 (n : Nat) = nv (List.range n) := by
  unfold rgV nv
  have e : (((n : Nat) : Int) - 0).toNat = n := by omega
  rw [e]
  exact List.map_congr_left fun i _ => by rw [Int.zero_add]
section
variable {σ : L2.St} {H : Hp} {te ta tb el : TE} {x : V} {K : PySem.W.Frag} {i : Nat}
theorem rg_ok {n : Nat} (h : n ≤ 1000) : RgOk 0 (n : Nat) := RgOk.of_le (by omega) (by omega) (by omega) (by omega)
theorem rs_listRg {n : Nat} (h : Ev te σ H (.int (n : Nat))) (hn : n ≤ 1000) : Rs (tLstRg (tRg1 te)) σ H fun H' v => Ln H' v (List.range n) := fun Q q => h _ ⟨n, rfl, rg_ok hn, fun p hp => q _ _ (same_new hp) ⟨p, rfl, by rw [upd_same, nv_range]⟩⟩
theorem rs_tupRg {n : Nat} (h : Ev te σ H (.int (n : Nat))) (hn : n ≤ 1000) : Rs (tTupRg (tRg1 te)) σ H fun H' v => Tn H' v (List.range n) := fun Q q => h _ ⟨n, rfl, rg_ok hn, fun p hp => q _ _ (same_new hp) ⟨p, rfl, by rw [upd_same, nv_range]⟩⟩
theorem ev_if {c : TT} {b : Bool} {v : V} (h : Et c σ H b) (h1 : b = true → Ev ta σ H v) (h2 : b = false → Ev tb σ H v) : Ev (tIf c ta tb) σ H v := fun Q q => h _ (by
  cases b with
  | true => exact iteT (h1 rfl _ q)
  | false => exact iteF (h2 rfl _ q))
theorem es_yes : Es tYes σ H true := fun Q q => q H (Same.refl H)
theorem filter_true (n : Nat) : (List.range n).filter (fun _ => true) = List.range n := List.filter_eq_self.mpr fun _ _ => rfl
theorem prd_fun {vs : List V} {js : List Nat} {g : Nat → Nat} (p : Paired (fun v j => v = V.int (g j : Nat)) vs js) : vs = nv (js.map g) := by
  induction p with
  | nil => rfl
  | cons r _ ih => rw [r, ih]; rfl
theorem prd_tn {H : Hp} {vs : List V} {js : List Nat} {g : Nat → List Nat} (p : Paired (fun v j => Tn H v (g j)) vs js) : Paired (Tn H) vs (js.map g) := by
  induction p with
  | nil => exact .nil
  | cons r _ ih => exact .cons r ih
/-- numbers over a range -/
theorem lcN_range {tt : TT} {n : Nat} (b : Nat → Bool) (f : Nat → Nat) (hn : Ev te σ H (.int (n : Nat))) (h1 : n ≤ 1000) (ht : ∀ j H', j < n → Same H H' → Et tt (σ.set i (some (.int (j : Nat)))) H' (b j))
    (he : ∀ j H', j < n → b j = true → Same H H' → Ev el (σ.set i (some (.int (j : Nat)))) H' (.int (f j : Nat))) : Rs (tLc (iRng1 (tCons te tNil)) (gName i) tt el [i]) σ H fun H' v => Ln H' v (((List.range n).filter b).map f) := fun Q q => by
  refine LcB.range (r := fun j _ v => v = .int (f j : Nat)) ⟨fun j H' hj s => (ht j H' hj s).es, fun j H' hj hb s => (he j H' hj hb s).rs rfl, fun _ _ _ _ _ h => h, sl1000 h1⟩ hn fun D H' vs hD s e p => q _ _ s ⟨D, rfl, ?_⟩
  rw [e, prd_fun p]
theorem map_at {f : Nat → Nat} {ns : List Nat} : (List.range ns.length).map (fun j => f (at' ns j)) = ns.map f := by
  apply List.ext_getElem (by simp)
  intro j h1 h2
  rw [List.getElem_map, List.getElem_range, List.getElem_map, at_eq]
theorem lcN_list {ns : List Nat} (f : Nat → Nat) (hn : Ev te σ H x) (hx : Ln H x ns) (h1 : ns.length ≤ 1000) (he : ∀ j H', j < ns.length → Same H H' → Ev el (σ.set i (some (.int (at' ns j : Nat)))) H' (.int (f (at' ns j) : Nat))) :
    Rs (tLc (iList K te) (gName i) tYes el [i]) σ H fun H' v => Ln H' v (ns.map f) := fun Q q => by
  obtain ⟨p, rfl, hp⟩ := hx
  refine LcB.list (x := fun j => .int (at' ns j : Nat)) (b := fun _ => true) (r := fun j _ v => v = .int (f (at' ns j) : Nat)) ⟨fun j H' hj s => es_yes, fun j H' hj hb s => (he j H' (by rwa [nv_len] at hj) s).rs rfl, fun _ _ _ _ _ h => h, by rw [nv_len]; exact sl1000 h1⟩ hn hp (fun j hj => nv_at (by rwa [nv_len] at hj)) fun D H' vs hD s e p => q _ _ s ⟨D, rfl, ?_⟩
  rw [filter_true, nv_len] at p
  rw [e, prd_fun p, map_at]
theorem lcN_tup {ns : List Nat} (f : Nat → Nat) (hn : Ev te σ H x) (hx : Tn H x ns) (h1 : ns.length ≤ 1000) (he : ∀ j H', j < ns.length → Same H H' → Ev el (σ.set i (some (.int (at' ns j : Nat)))) H' (.int (f (at' ns j) : Nat))) :
    Rs (tLc (iTup K te) (gName i) tYes el [i]) σ H fun H' v => Ln H' v (ns.map f) := fun Q q => by
  obtain ⟨p, rfl, hp⟩ := hx
  refine LcB.tup (x := fun j => .int (at' ns j : Nat)) (b := fun _ => true) (r := fun j _ v => v = .int (f (at' ns j) : Nat)) ⟨fun j H' hj s => es_yes, fun j H' hj hb s => (he j H' (by rwa [nv_len] at hj) s).rs rfl, fun _ _ _ _ _ h => h, by rw [nv_len]; exact sl1000 h1⟩ hn hp (fun j hj => nv_at (by rwa [nv_len] at hj)) fun D H' vs hD s e p => q _ _ s ⟨D, rfl, ?_⟩
  rw [filter_true, nv_len] at p
  rw [e, prd_fun p, map_at]
/-- rows over a range: each row a tuple made anew -/
theorem lcT_range {n : Nat} (f : Nat → List Nat) (hn : Ev te σ H (.int (n : Nat))) (h1 : n ≤ 1000)
    (he : ∀ j H', j < n → Same H H' → Rs el (σ.set i (some (.int (j : Nat)))) H' fun H2 v => Tn H2 v (f j)) : Rs (tLc (iRng1 (tCons te tNil)) (gName i) tYes el [i]) σ H fun H' v => Lt H' v ((List.range n).map f) := fun Q q => by
  refine LcB.range (b := fun _ => true) (r := fun j H2 v => Tn H2 v (f j)) ⟨fun j H' hj s => es_yes, fun j H' hj hb s => he j H' hj s, fun _ _ _ _ s h => h.fx s, sl1000 h1⟩ hn fun D H' vs hD s e p => q _ _ s ⟨D, vs, rfl, e, ?_⟩
  rw [filter_true] at p
  exact prd_tn p
/-- rows over a list of rows -/
theorem lcT_list {t : List (List Nat)} (f : List Nat → List Nat) (hn : Ev te σ H x) (hx : Lt H x t) (h1 : t.length ≤ 1000)
    (he : ∀ r v H', r ∈ t → Same H H' → Tn H' v r → Rs el (σ.set i (some v)) H' fun H2 u => Tn H2 u (f r)) : Rs (tLc (iList K te) (gName i) tYes el [i]) σ H fun H' v => Lt H' v (t.map f) := fun Q q => by
  obtain ⟨p, vs, rfl, hp, pr⟩ := hx
  have hl := prd_len pr
  refine LcB.list (x := fun j => vs.getD j .non) (b := fun _ => true) (r := fun j H2 u => Tn H2 u (f (t.getD j []))) ⟨fun j H' hj s => es_yes, fun j H' hj hb s => ?_, fun _ _ _ _ s h => h.fx s, by rw [hl]; exact sl1000 h1⟩ hn hp (fun j hj => by rw [List.getElem?_eq_getElem hj, List.getD_eq_getElem?_getD, List.getElem?_eq_getElem hj]; rfl) fun D H' us hD s e p => q _ _ s ⟨D, us, rfl, e, ?_⟩
  · have e1 : t[j]? = some (t.getD j []) := by
      have hj' : j < t.length := by omega
      rw [List.getElem?_eq_getElem hj', List.getD_eq_getElem?_getD, List.getElem?_eq_getElem hj']; rfl
    obtain ⟨u, e2, e3⟩ := prd_at pr e1
    have e4 : vs.getD j .non = u := by rw [List.getD_eq_getElem?_getD, e2]; rfl
    rw [e4]
    exact he _ u H' (List.mem_of_getElem? e1) s (e3.same s)
  · rw [filter_true, hl] at p
    have e5 : t.map f = (List.range t.length).map fun j => f (t.getD j []) := by
      apply List.ext_getElem (by simp)
      intro j h1 h2
      rw [List.getElem_map, List.getElem_map, List.getElem_range, row_getD]
    rw [e5]
    exact prd_tn p
theorem rs_tup {ns : List Nat} {P : Hp → V → Prop} (h : Rs te σ H P) (hp : ∀ H' v, P H' v → Ln H' v ns) : Rs (tCB rTup7 (tCons te tNil)) σ H fun H' v => Tn H' v ns := fun Q q => h _ fun v H' s p => by
  obtain ⟨a, rfl, ha⟩ := hp _ _ p
  exact ⟨a, nv ns, rfl, .inl ⟨ha, fun l hl => q _ _ (s.trans (same_new hl)) ⟨l, rfl, upd_same⟩⟩⟩
theorem rs_tupN {ns : List Nat} (h : Rs te σ H fun H' v => Ln H' v ns) : Rs (tCB rTup7 (tCons te tNil)) σ H fun H' v => Tn H' v ns := rs_tup h fun _ _ q => q
theorem rs_tupT {t : List (List Nat)} (h : Rs te σ H fun H' v => Lt H' v t) : Rs (tCB rTup7 (tCons te tNil)) σ H fun H' v => Tt H' v t := fun Q q => h _ fun v H' s p => by
  obtain ⟨a, vs, rfl, ha, pr⟩ := p
  exact ⟨a, vs, rfl, .inl ⟨ha, fun l hl => q _ _ (s.trans (same_new hl)) ⟨l, vs, rfl, upd_same, tns_fx pr (fx_new hl)⟩⟩⟩
theorem Rs.imp {P P' : Hp → V → Prop} (h : Rs te σ H P) (k : ∀ H' v, Same H H' → P H' v → P' H' v) : Rs te σ H P' := fun Q q => h Q fun v H' s p => q v H' s (k H' v s p)
end
/-! pairs -/
def Pr (H : Hp) (v : V) (p : Nat × Nat) : Prop := Tn H v [p.1, p.2]
def PrL (H : Hp) (v : V) (ps : List (Nat × Nat)) : Prop := ∃ a vs, v = .ref a ∧ H a = some (.lst vs) ∧ Paired (Pr H) vs ps
theorem prs_fx {H H' : Hp} {vs : List V} {ps : List (Nat × Nat)} (h : Paired (Pr H) vs ps) (f : Fx H H') : Paired (Pr H') vs ps := prd_imp h fun _ _ q => q.fx f
theorem PrL.same {H H' : Hp} {v : V} {ps : List (Nat × Nat)} (h : PrL H v ps) (s : Same H H') : PrL H' v ps := let ⟨a, vs, e, q, p⟩ := h; ⟨a, vs, e, s _ _ q, prs_fx p (fx_of s)⟩
theorem tg2 {K : PySem.W.Frag} {v x y : V} {i j : Nat} {σ : L2.St} {H : Hp} {k : L2.St → Hp → Prop} {p : Addr} (ev : v = .ref p) (h : H p = some (.tup [x, y])) (q : k ((σ.set i (some x)).set j (some y)) H) : gTup K 2 (gCons (gName i) (gCons (gName j) gNil)) v σ H k :=
  ⟨p, [x, y], ev, .of h, rfl, x, [y], rfl, y, [], rfl, rfl, q⟩
theorem tg2p {K : PySem.W.Frag} {v : V} {p : Nat × Nat} {i j : Nat} {σ : L2.St} {H : Hp} {k : L2.St → Hp → Prop} (h : Pr H v p) (q : k ((σ.set i (some (.int (p.1 : Nat)))).set j (some (.int (p.2 : Nat)))) H) : gTup K 2 (gCons (gName i) (gCons (gName j) gNil)) v σ H k := by
  obtain ⟨a, e, h⟩ := h
  exact tg2 e h q
theorem tg3 {K : PySem.W.Frag} {v x y z : V} {i j l : Nat} {σ : L2.St} {H : Hp} {k : L2.St → Hp → Prop} {p : Addr} (ev : v = .ref p) (h : H p = some (.tup [x, y, z])) (q : k (((σ.set i (some x)).set j (some y)).set l (some z)) H) : gTup K 3 (gCons (gName i) (gCons (gName j) (gCons (gName l) gNil))) v σ H k :=
  ⟨p, [x, y, z], ev, .of h, rfl, x, [y, z], rfl, y, [z], rfl, z, [], rfl, rfl, q⟩
end W7
end
section
set_option Elab.async false
set_option linter.all false
set_option maxRecDepth 100000
set_option maxHeartbeats 1000000
namespace W7
open PySem PySem.Spec PyProof.Rows L2 RZ K37 K37E M7
theorem Pr.fx {H H' : Hp} {v : V} {p : Nat × Nat} (h : Pr H v p) (f : Fx H H') : Pr H' v p := Tn.fx h f
theorem take_snoc {α : Type} {l : List α} {i : Nat} {x : α} (h : l[i]? = some x) : l.take (i + 1) = l.take i ++ [x] := by
  rw [List.take_succ, h]
  rfl
theorem ev_int {te : TE} {σ : L2.St} {H : Hp} {a b : Nat} (h : Ev te σ H (.int (a : Nat))) (e : a = b) : Ev te σ H (.int (b : Nat)) := e ▸ h
section
variable {P : Program} {w : World} {K : PySem.W.Frag} {mg : Str → Option Value} {base : Heap} {C : Addr}
def spClasses : Sp := fun vs H Q _ => ∃ (v : V) (n : Nat) (ps : List (Nat × Nat)), vs = [v, .int (n : Int)] ∧ PrL H v ps ∧ (∀ p ∈ ps, p.1 < n ∧ p.2 < n) ∧ n ≤ 1000 ∧ ∀ u H', Same H H' → Tn H' u (classesOf ps n) → Q u H'
theorem sc_classes_of : FnScope ["pairs", "n", "found", "x", "y", "low", "high", "item"] ["pairs", "n"] (defScope s_classes_of) := ⟨rfl, rfl, rfl, by decide +kernel, rfl, by decide +kernel, by decide +kernel⟩
theorem h_classes_of (D : Dfn K mg "classes_of" s_classes_of) (T : Bl mg)  : Has P w K mg base "classes_of" ["pairs", "n"] 1 (spClasses) := by
  refine D.has sc_classes_of (fun _ _ _ _ _ _ us hl => match us, hl with | [_, _], _ => rfl) (fun vs H Q E h => by obtain ⟨v, n, ps, rfl, _⟩ := h; rfl) (fun f cdv A outer s H vs Q E hr h => ⟨_, (pss_cons (ps_set (i := 2) sc_classes_of.nd rfl (Or.inl rfl) (pe_listRg (by rfl) (by rfl) T.list (prg_1 (by rfl) T.range (pv 1))))
      (pss_cons (ps_for PassesOwn.never (by rfl) (pi7L K (pv 0)) (pg7 (n := 2) K (by rfl) (pgs_cons (pg_name (i := 3) sc_classes_of.nd rfl (Or.inl rfl)) (pgs_cons (pg_name (i := 4) sc_classes_of.nd rfl (Or.inl rfl)) pgs_nil))) (pss_cons (ps_set (i := 5) sc_classes_of.nd rfl (Or.inr rfl) (pe_callB (call_min2 rfl) (by rfl) T.min (by decide +kernel) (pa_cons (pe_ix ix7L (pv 2) (pv 3) (fun _ _ => rfl)) (pa_cons (pe_ix ix7L (pv 2) (pv 4) (fun _ _ => rfl)) pa_nil))))
      (pss_cons (ps_set (i := 6) sc_classes_of.nd rfl (Or.inr rfl) (pe_callB (call_max2 rfl) (by rfl) T.max (by decide +kernel) (pa_cons (pe_ix ix7L (pv 2) (pv 3) (fun _ _ => rfl)) (pa_cons (pe_ix ix7L (pv 2) (pv 4) (fun _ _ => rfl)) pa_nil))))
      (pss_one (ps_setLc (i := 2) (own := [("item", 7)]) (g := gName 7) (by rfl) sc_classes_of.nd rfl rfl (sw_true rfl rfl rfl (by decide +kernel)) (pi7L K (pv 2)) (blkOk_by (by kernel_rfl)) (fun _ _ _ _ _ => pg_name (i := 7) sc_classes_of.nd rfl (Or.inl rfl)) (fun _ _ _ _ _ => pts_nil) (fun _ _ _ _ _ => (pe_ifExp (pt_cmpR op_eq (pv 7) (pv 6) (nomark _)) (pv 5) (pv 7))))))))
      (pss_one (ps_ret (pe_callTy tup7 (by rfl) T.tuple (by decide +kernel) (pa_cons (pv 2) pa_nil)))))), ?_⟩)
  obtain ⟨v, n, ps, rfl, hv, hin, hn, q⟩ := h
  refine sq_ (sets_ (rs_listRg (n := n) (ev_v rfl) hn) fun v0 H1 s1 l1 => ?_)
  obtain ⟨p, vs, rfl, hp, pr⟩ := hv
  refine sq_ (forL_ (p := p) (xs := vs) (ev_v rfl) (s1 _ _ hp) (fun i σ H' => Same H H' ∧ ∃ fv a b c d e, σ = [some (.ref p), some (.int (n : Int)), some fv, a, b, c, d, e] ∧ Ln H' fv ((ps.take i).foldl merge (List.range n))) ⟨s1, _, none, none, none, none, none, rfl, l1⟩ (fun i σ H' h => h.1 _ _ hp) (fun i x σ H' hx h => ?_) fun σ H' h => ?_)
  · obtain ⟨s, fv, a, b, c, d, e, rfl, l⟩ := h
    obtain ⟨pp, hpp, hx2⟩ := prd_at' pr hx
    have hin2 := hin pp (List.mem_of_getElem? hpp)
    have Cn := fold_canon (ps.take i) (List.range n) (fun p hp => hin p (List.mem_of_mem_take hp)) (canon_range n)
    have e0 : (ps.take (i + 1)).foldl merge (List.range n) = merge ((ps.take i).foldl merge (List.range n)) pp := by rw [take_snoc hpp, List.foldl_append]; rfl
    have hl := Cn.len
    generalize (ps.take i).foldl merge (List.range n) = f at l Cn e0 hl
    refine tg2p (hx2.fx (fx_of s)) ?_
    have e1 : ∀ c d e, Ev (tOp ixL (tVar 2) (tVar 3)) [some (.ref p), some (.int (n : Int)), some fv, some (.int (pp.1 : Nat)), some (.int (pp.2 : Nat)), c, d, e] H' (.int (at' f pp.1 : Nat)) := fun c d e => ev_ixL (ev_v rfl) l (ev_v rfl) (by omega)
    have e2 : ∀ c d e, Ev (tOp ixL (tVar 2) (tVar 4)) [some (.ref p), some (.int (n : Int)), some fv, some (.int (pp.1 : Nat)), some (.int (pp.2 : Nat)), c, d, e] H' (.int (at' f pp.2 : Nat)) := fun c d e => ev_ixL (ev_v rfl) l (ev_v rfl) (by omega)
    refine sq_ (set_ (ev_min (e1 _ _ _) (e2 _ _ _)) (sq_ (set_ (ev_max (e1 _ _ _) (e2 _ _ _)) (sets_ (lcN_list (fun z => if z = max (at' f pp.1) (at' f pp.2) then min (at' f pp.1) (at' f pp.2) else z) (ev_v rfl) l (by omega) fun j H2 hj s2 => ?_) fun v2 H2 s2 l2 => ⟨s.trans s2, v2, _, _, _, _, _, rfl, ?_⟩))))
    · refine ev_if (et_t (ev_eqN (ev_v rfl) (ev_v rfl))) (fun hb => ?_) fun hb => ?_
      · rw [if_pos (of_decide_eq_true hb)]; exact ev_v rfl
      · rw [if_neg (of_decide_eq_false hb)]; exact ev_v rfl
    · rw [e0]
      exact l2
  · obtain ⟨s, fv, a, b, c, d, e, rfl, l⟩ := h
    rw [prd_len pr, List.take_length] at l
    exact rets_ (rs_tupN ((ev_v rfl).rs l)) fun u H2 s2 t2 => q u H2 (s.trans s2) t2
def spMerged : Sp := fun vs H Q _ => ∃ (v : V) (x y : Nat) (f : List Nat), vs = [v, .int (x : Int), .int (y : Int)] ∧ Ln H v f ∧ x < f.length ∧ y < f.length ∧ f.length ≤ 1000 ∧ ∀ u H', Same H H' → Ln H' u (merge f (x, y)) → Q u H'
theorem sc_merged : FnScope ["classes", "x", "y", "low", "high", "c"] ["classes", "x", "y"] (defScope s_merged) := ⟨rfl, rfl, rfl, by decide +kernel, rfl, by decide +kernel, by decide +kernel⟩
theorem h_merged (D : Dfn K mg "merged" s_merged) (T : Bl mg)  : Has P w K mg base "merged" ["classes", "x", "y"] 1 (spMerged) := by
  refine D.has sc_merged (fun _ _ _ _ _ _ us hl => match us, hl with | [_, _, _], _ => rfl) (fun vs H Q E h => by obtain ⟨v, x, y, f, rfl, _⟩ := h; rfl) (fun f cdv A outer s H vs Q E hr h => ⟨_, (pss_cons (ps_set (i := 3) sc_merged.nd rfl (Or.inr rfl) (pe_callB (call_min2 rfl) (by rfl) T.min (by decide +kernel) (pa_cons (pe_ix ix7L (pv 0) (pv 1) (fun _ _ => rfl)) (pa_cons (pe_ix ix7L (pv 0) (pv 2) (fun _ _ => rfl)) pa_nil))))
      (pss_cons (ps_set (i := 4) sc_merged.nd rfl (Or.inr rfl) (pe_callB (call_max2 rfl) (by rfl) T.max (by decide +kernel) (pa_cons (pe_ix ix7L (pv 0) (pv 1) (fun _ _ => rfl)) (pa_cons (pe_ix ix7L (pv 0) (pv 2) (fun _ _ => rfl)) pa_nil))))
      (pss_one (ps_ret (pe_lc (own := [("c", 5)]) (g := gName 5) (by rfl) sc_merged.nd (pi7L K (pv 0)) (blkOk_by (by kernel_rfl)) (fun _ _ _ _ _ => pg_name (i := 5) sc_merged.nd rfl (Or.inl rfl)) (fun _ _ _ _ _ => pts_nil) (fun _ _ _ _ _ => (pe_ifExp (pt_cmpR op_eq (pv 5) (pv 4) (nomark _)) (pv 3) (pv 5)))))))), ?_⟩)
  obtain ⟨v, x, y, f, rfl, l, hx, hy, hn, q⟩ := h
  have e1 : ∀ c d e, Ev (tOp ixL (tVar 0) (tVar 1)) [some v, some (.int (x : Nat)), some (.int (y : Nat)), c, d, e] H (.int (at' f x : Nat)) := fun c d e => ev_ixL (ev_v rfl) l (ev_v rfl) (by omega)
  have e2 : ∀ c d e, Ev (tOp ixL (tVar 0) (tVar 2)) [some v, some (.int (x : Nat)), some (.int (y : Nat)), c, d, e] H (.int (at' f y : Nat)) := fun c d e => ev_ixL (ev_v rfl) l (ev_v rfl) (by omega)
  refine sq_ (set_ (ev_min (e1 _ _ _) (e2 _ _ _)) (sq_ (set_ (ev_max (e1 _ _ _) (e2 _ _ _)) (rets_ (lcN_list (fun z => if z = max (at' f x) (at' f y) then min (at' f x) (at' f y) else z) (ev_v rfl) l (by omega) fun j H2 hj s2 => ?_) fun v2 H2 s2 l2 => q v2 H2 s2 l2))))
  refine ev_if (et_t (ev_eqN (ev_v rfl) (ev_v rfl))) (fun hb => ?_) fun hb => ?_
  · rw [if_pos (of_decide_eq_true hb)]; exact ev_v rfl
  · rw [if_neg (of_decide_eq_false hb)]; exact ev_v rfl
def spRefines : Sp := fun vs H Q _ => ∃ (v u : V) (a b : List Nat), vs = [v, u] ∧ Tn H v a ∧ Tn H u b ∧ b.length = a.length ∧ (∀ x, x < a.length → at' a x < a.length) ∧ a.length ≤ 1000 ∧ ∀ H', Same H H' → Q (.bl (refB a b)) H'
theorem all_bl {vs : List V} {js : List Nat} {g : Nat → Bool} (p : Paired (fun v j => v = V.bl (g j)) vs js) : vs = (js.map g).map V.bl := by
  induction p with
  | nil => rfl
  | cons r _ ih => rw [r, ih]; rfl
theorem rs_all {σ : L2.St} {H : Hp} {te el : TE} {i n : Nat} (g : Nat → Bool) (hn : Ev te σ H (.int (n : Nat))) (h1 : n ≤ 1000) (he : ∀ j H', j < n → Same H H' → Ev el (σ.set i (some (.int (j : Nat)))) H' (.bl (g j))) :
    Rs (tCB rAll7 (tCons (tLc (iRng1 (tCons te tNil)) (gName i) tYes el [i]) tNil)) σ H fun _ v => v = .bl ((List.range n).all g) := fun Q q => by
  refine LcB.range (σ := σ) (H := H) (i := i) (tt := tYes) (el := el) (te := te) (n := n) (b := fun _ => true) (r := fun j _ v => v = .bl (g j)) (Q := fun x H1 => tNil σ H1 fun xs H2 => rAll7 (x :: xs) H2 Q) ⟨fun j H' hj s => es_yes, fun j H' hj hb s => (he j H' hj s).rs rfl, fun _ _ _ _ _ h => h, sl1000 h1⟩ hn fun D H' vs hD s e p => ⟨D, (List.range n).map g, rfl, by rw [e, all_bl p, filter_true], ?_⟩
  have e3 : (List.map g (List.range n)).all id = (List.range n).all g := by rw [List.all_map]; rfl
  rw [e3]
  exact q _ H' s rfl
theorem sc_refines : FnScope ["a", "b", "x"] ["a", "b"] (defScope s_refines) := ⟨rfl, rfl, rfl, by decide +kernel, rfl, by decide +kernel, by decide +kernel⟩
theorem h_refines (D : Dfn K mg "refines" s_refines) (T : Bl mg)  : Has P w K mg base "refines" ["a", "b"] 1 (spRefines) := by
  refine D.has sc_refines (fun _ _ _ _ _ _ us hl => match us, hl with | [_, _], _ => rfl) (fun vs H Q E h => by obtain ⟨v, u, a, b, rfl, _⟩ := h; rfl) (fun f cdv A outer s H vs Q E hr h => ⟨_, (pss_one (ps_ret (pe_callB (all7 (by rfl)) (by rfl) T.all (by decide +kernel) (pa_cons (pe_lc (own := [("x", 2)]) (g := gName 2) (by rfl) sc_refines.nd (pi_range1 (by rfl) T.range (pa_cons (pe_callB len7 (by rfl) T.len (by decide +kernel) (pa_cons (pv 0) pa_nil)) pa_nil)) (blkOk_by (by kernel_rfl)) (fun _ _ _ _ _ => pg_name (i := 2) sc_refines.nd rfl (Or.inl rfl)) (fun _ _ _ _ _ => pts_nil) (fun _ _ _ _ _ => (pe_cmpR op_eq (pe_ix ix7T (pv 1) (pv 2) (fun _ _ => rfl)) (pe_ix ix7T (pv 1) (pe_ix ix7T (pv 0) (pv 2) (fun _ _ => rfl)) (fun _ _ => rfl)) (nomark _)))) pa_nil)))), ?_⟩)
  obtain ⟨v, u, a, b, rfl, ha, hb, hl, hlt, hn, q⟩ := h
  refine rets_ (rs_all (fun j => decide (at' b j = at' b (at' a j))) (ev_lenTn (ev_v rfl) ha) hn fun j H' hj s => ?_) fun u H' s e => e ▸ q H' s
  have hj2 := hlt j hj
  exact ev_eqN (ev_ixT (ev_v rfl) (hb.same s) (ev_v rfl) (by omega)) (ev_ixT (ev_v rfl) (hb.same s) (ev_ixT (ev_v rfl) (ha.same s) (ev_v rfl) hj) (by omega))
/-! a list of pairs (index, item) of a tuple -/
theorem rs_enum {σ : L2.St} {H : Hp} {te : TE} {x : V} {c : List Nat} (h : Ev te σ H x) (hx : Tn H x c) : Rs (tEnumL K te) σ H fun H' v => PrL H' v (enumP c) := fun Q q => by
  obtain ⟨a, rfl, ha⟩ := hx
  refine h _ ⟨a, nv c, rfl, .of ha, fun H' p ts s hp hts hl e1 e2 => q _ _ s ⟨p, ts.map V.ref, rfl, e1, ?_⟩⟩
  rw [nv_len] at hl
  have key : ∀ (js : List Nat) (ts : List Addr), ts.length = js.length → (∀ (k : Nat) (t : Addr) (j : Nat), ts[k]? = some t → js[k]? = some j → Pr H' (.ref t) (j, at' c j)) → Paired (Pr H') (ts.map V.ref) (js.map fun j => (j, at' c j)) := by
    intro js
    induction js with
    | nil =>
      intro ts hl _
      cases ts with
      | nil => exact .nil
      | cons _ _ => cases hl
    | cons j js ih =>
      intro ts hl hh
      cases ts with
      | nil => cases hl
      | cons t ts => exact .cons (hh 0 t j rfl rfl) (ih ts (Nat.succ.inj hl) fun k t' j' h1 h2 => hh (k + 1) t' j' h1 h2)
  refine key (List.range c.length) ts (by rw [List.length_range]; exact hl) fun k t j h1 h2 => ?_
  have hk := (List.getElem?_eq_some_iff.mp h2).1
  rw [List.length_range] at hk
  have ej : j = k := by
    rw [List.getElem?_range hk] at h2
    exact (Option.some.inj h2).symm
  subst ej
  exact ⟨t, rfl, e2 j t _ h1 (nv_at hk)⟩
theorem enum_len (c : List Nat) : (enumP c).length = c.length := by
  unfold enumP
  rw [List.length_map, List.length_range]
def spJoined : Sp := fun vs H Q _ => ∃ (v u : V) (n : Nat) (a b : List Nat), vs = [v, u] ∧ Tn H v a ∧ Tn H u b ∧ Canon n a ∧ Canon n b ∧ n ≤ 400 ∧ ∀ x H', Same H H' → Tn H' x (joinC a b) → Q x H'
theorem sc_joined : FnScope ["a", "b", "pairs"] ["a", "b"] (defScope s_joined) := ⟨rfl, rfl, rfl, by decide +kernel, rfl, by decide +kernel, by decide +kernel⟩
theorem h_joined (D : Dfn K mg "joined" s_joined) (T : Bl mg) (H_classes_of : Has P w K mg base "classes_of" ["pairs", "n"] 1 spClasses) : Has P w K mg base "joined" ["a", "b"] 2 (spJoined) := by
  refine D.has sc_joined (fun _ _ _ _ _ _ us hl => match us, hl with | [_, _], _ => rfl) (fun vs H Q E h => by obtain ⟨v, u, n, a, b, rfl, _⟩ := h; rfl) (fun f cdv A outer s H vs Q E hr h => ⟨_, (pss_cons (ps_set (i := 2) sc_joined.nd rfl (Or.inl rfl) (pe_op op_cat (pe_listEnum (by rfl) (pv 0) (by rfl) T.list (by rfl) T.enumerate) (pe_listEnum (by rfl) (pv 1) (by rfl) T.list (by rfl) T.enumerate)))
      (pss_one (ps_ret (pe_has H_classes_of (hr.mono (by decide)) (pa_cons (pv 2) (pa_cons (pe_callB len7 (by rfl) T.len (by decide +kernel) (pa_cons (pv 0) pa_nil)) pa_nil)))))), ?_⟩)
  obtain ⟨v, u, n, a, b, rfl, ha, hb, Ca, Cb, hn, q⟩ := h
  refine sq_ (sets_ (P := fun H' v => PrL H' v (enumP a ++ enumP b)) (fun Q q => rs_enum (ev_v rfl) ha _ fun v1 H1 s1 p1 => rs_enum (ev_v rfl) (hb.same s1) _ fun v2 H2 s2 p2 => ?_) fun v1 H1 s1 p1 => ?_)
  · obtain ⟨l1, xs1, rfl, e1, r1⟩ := p1.same s2
    obtain ⟨l2, xs2, rfl, e2, r2⟩ := p2
    have h1 := prd_len r1
    have h2 := prd_len r2
    rw [enum_len, Ca.len] at h1
    rw [enum_len, Cb.len] at h2
    exact ⟨l1, l2, xs1, xs2, rfl, rfl, e1, e2, by rw [h1, h2]; exact sl1000 (by omega), fun p hp => q _ _ ((s1.trans s2).trans (same_new hp)) ⟨p, _, rfl, upd_same, prs_fx (prd_app r1 r2) (fx_new hp)⟩⟩
  · have el := ev_lenTn (σ := [some v, some u, some v1]) (ev_v (i := 0) rfl) (ha.same s1)
    refine ⟨_, rfl, ?_⟩
    show tCB rLen7 (tCons (tVar 0) tNil) _ _ _
    refine el _ ?_
    rw [Ca.len]
    refine ⟨v1, n, enumP a ++ enumP b, rfl, p1, fun p hp => join_pairs Ca Cb p hp, by omega, fun x H' s t => q x H' (s1.trans s) ?_⟩
    unfold joinC
    rw [Ca.len]
    exact t
end
end W7
end
section
set_option Elab.async false
set_option linter.all false
set_option maxRecDepth 100000
set_option maxHeartbeats 1000000
/-! lists of lists -/
namespace W7
open PySem PySem.Spec PyProof.Rows L2 RZ K37 K37E M7
def LnF (H H' : Hp) (v : V) (ns : List Nat) : Prop := ∃ D, v = .ref D ∧ H D = none ∧ H' D = some (.lst (nv ns))
theorem LnF.ln {H H' : Hp} {v : V} {ns : List Nat} (h : LnF H H' v ns) : Ln H' v ns := let ⟨D, a, _, b⟩ := h; ⟨D, a, b⟩
def InL (H : Hp) (D : Addr) (v : V) (r : List Nat) : Prop := ∃ a, v = .ref a ∧ a ≠ D ∧ H a = some (.lst (nv r))
def LL (H : Hp) (v : V) (t : List (List Nat)) : Prop := ∃ D vs, v = .ref D ∧ H D = some (.lst vs) ∧ Paired (InL H D) vs t ∧ vs.Nodup
theorem LL.same {H H' : Hp} {v : V} {t : List (List Nat)} (h : LL H v t) (s : Same H H') : LL H' v t := let ⟨D, vs, e, q, p, nd⟩ := h; ⟨D, vs, e, s _ _ q, prd_imp p fun _ _ ⟨a, b, c, d⟩ => ⟨a, b, c, s _ _ d⟩, nd⟩
section
variable {σ : L2.St} {H : Hp} {te el : TE} {x : V} {K : PySem.W.Frag} {i : Nat}
theorem lcF_range {tt : TT} {n : Nat} (b : Nat → Bool) (f : Nat → Nat) (hn : Ev te σ H (.int (n : Nat))) (h1 : n ≤ 1000) (ht : ∀ j H', j < n → Same H H' → Et tt (σ.set i (some (.int (j : Nat)))) H' (b j))
    (he : ∀ j H', j < n → b j = true → Same H H' → Ev el (σ.set i (some (.int (j : Nat)))) H' (.int (f j : Nat))) : Rs (tLc (iRng1 (tCons te tNil)) (gName i) tt el [i]) σ H fun H' v => LnF H H' v (((List.range n).filter b).map f) := fun Q q => by
  refine LcB.range (r := fun j _ v => v = .int (f j : Nat)) ⟨fun j H' hj s => (ht j H' hj s).es, fun j H' hj hb s => (he j H' hj hb s).rs rfl, fun _ _ _ _ _ h => h, sl1000 h1⟩ hn fun D H' vs hD s e p => q _ _ s ⟨D, rfl, hD, ?_⟩
  rw [e, prd_fun p]
theorem lcF_list {ns : List Nat} (f : Nat → Nat) (hn : Ev te σ H x) (hx : Ln H x ns) (h1 : ns.length ≤ 1000) (he : ∀ j H', j < ns.length → Same H H' → Ev el (σ.set i (some (.int (at' ns j : Nat)))) H' (.int (f (at' ns j) : Nat))) :
    Rs (tLc (iList K te) (gName i) tYes el [i]) σ H fun H' v => LnF H H' v (ns.map f) := fun Q q => by
  obtain ⟨p, rfl, hp⟩ := hx
  refine LcB.list (x := fun j => .int (at' ns j : Nat)) (b := fun _ => true) (r := fun j _ v => v = .int (f (at' ns j) : Nat)) ⟨fun j H' hj s => es_yes, fun j H' hj hb s => (he j H' (by rwa [nv_len] at hj) s).rs rfl, fun _ _ _ _ _ h => h, by rw [nv_len]; exact sl1000 h1⟩ hn hp (fun j hj => nv_at (by rwa [nv_len] at hj)) fun D H' vs hD s e p => q _ _ s ⟨D, rfl, hD, ?_⟩
  rw [filter_true, nv_len] at p
  rw [e, prd_fun p, map_at]
def AccL (H : Hp) (D : Addr) (g : Nat → List Nat) (j : Nat) (H' : Hp) : Prop := Same H H' ∧ ∃ vs, H' D = some (.lst vs) ∧ Paired (InL H' D) vs ((List.range j).map g) ∧ vs.Nodup ∧ ∀ u ∈ vs, ∃ a, u = .ref a ∧ H a = none
theorem accL_turn {D : Addr} {n : Nat} {g : Nat → List Nat} {y : Nat → V} {j : Nat} {H' : Hp} (hD : H D = none) (hn : n ≤ 1000) (hj : j < n) (he : ∀ j H', j < n → Same H H' → Rs el (σ.set i (some (y j))) H' fun H2 v => LnF H' H2 v (g j)) (h : AccL H D g j H') :
    gName i (y j) (wipe σ [i]) H' fun σ2 H2 => wipe σ2 [i] = wipe σ [i] ∧ tYes σ2 H2 fun c H3 => if c = true then el σ2 H3 fun y H4 => ∃ acc, H4 D = some (.lst acc) ∧ acc.length < sizeLine ∧ AccL H D g (j + 1) (upd H4 D (.lst (acc ++ [y]))) else AccL H D g (j + 1) H3 := by
  have ew : (wipe σ [i]).set i (some (y j)) = σ.set i (some (y j)) := set2
  unfold gName
  rw [ew]
  obtain ⟨s, vs, e, p, nd, fr⟩ := h
  refine ⟨by rw [wipe1, wipe1, set2], es_yes (σ := σ.set i (some (y j))) (H := H') _ fun H3 s3 => iteT (he j H3 hj (s.trans s3) _ fun v H4 s4 q => ⟨vs, s4 _ _ (s3 _ _ e), ?_, ?_⟩)⟩
  · rw [prd_len p, List.length_map, List.length_range]
    have : 1000 < sizeLine := by decide
    omega
  · obtain ⟨a, rfl, ha, hb⟩ := q
    have ne : a ≠ D := fun z => by rw [z, s3 _ _ e] at ha; cases ha
    refine ⟨same_put ((s.trans s3).trans s4) hD, vs ++ [.ref a], upd_same, ?_, ?_, fun u hu => (List.mem_append.mp hu).elim (fr u) fun h => ⟨a, List.mem_singleton.mp h, (s.trans s3).free ha⟩⟩
    · rw [List.range_succ, List.map_append]
      exact prd_app (prd_imp p fun v r ⟨b, e1, e2, e3⟩ => ⟨b, e1, e2, by rw [upd_ne e2]; exact s4 _ _ (s3 _ _ e3)⟩) (prd_one ⟨a, rfl, ne, by rw [upd_ne ne]; exact hb⟩)
    · refine List.nodup_append.mpr ⟨nd, List.nodup_cons.mpr ⟨by simp, List.nodup_nil⟩, fun u hu w hw e1 => ?_⟩
      rw [List.mem_singleton.mp hw] at e1
      obtain ⟨k, hk⟩ := List.getElem?_of_mem hu
      obtain ⟨r, _, b, e2, e3, e4⟩ := prd_at' p hk
      rw [e1] at e2
      cases e2
      have e5 := s3 _ _ e4
      rw [ha] at e5
      cases e5
theorem lcLL_range {n : Nat} (g : Nat → List Nat) (hn : Ev te σ H (.int (n : Nat))) (h1 : n ≤ 1000) (he : ∀ j H', j < n → Same H H' → Rs el (σ.set i (some (.int (j : Nat)))) H' fun H2 v => LnF H' H2 v (g j)) :
    Rs (tLc (iRng1 (tCons te tNil)) (gName i) tYes el [i]) σ H fun H' v => LL H' v ((List.range n).map g) := fun Q q => by
  refine hn _ ⟨n, rfl, by omega, by omega, fun D hD => ?_⟩
  rw [Int.toNat_natCast]
  refine lc_range (AccL H D g) ⟨same_new hD, [], upd_same, .nil, List.nodup_nil, fun u hu => (by cases hu)⟩ (fun j H' hj h => ?_) fun H' ⟨s, vs, e, p, nd, fr⟩ => q _ _ s ⟨D, vs, rfl, e, p, nd⟩
  rw [Int.zero_add]
  exact accL_turn (y := fun j => .int (j : Nat)) hD h1 hj he h
theorem lcLLF_range {n : Nat} (g : Nat → List Nat) (hn : Ev te σ H (.int (n : Nat))) (h1 : n ≤ 1000) (he : ∀ j H', j < n → Same H H' → Rs el (σ.set i (some (.int (j : Nat)))) H' fun H2 v => LnF H' H2 v (g j)) :
    Rs (tLc (iRng1 (tCons te tNil)) (gName i) tYes el [i]) σ H fun H' v => ∃ D vs, v = .ref D ∧ H D = none ∧ H' D = some (.lst vs) ∧ Paired (InL H' D) vs ((List.range n).map g) ∧ vs.Nodup ∧ ∀ u ∈ vs, ∃ a, u = .ref a ∧ H a = none := fun Q q => by
  refine hn _ ⟨n, rfl, by omega, by omega, fun D hD => ?_⟩
  rw [Int.toNat_natCast]
  refine lc_range (AccL H D g) ⟨same_new hD, [], upd_same, .nil, List.nodup_nil, fun u hu => (by cases hu)⟩ (fun j H' hj h => ?_) fun H' ⟨s, vs, e, p, nd, fr⟩ => q _ _ s ⟨D, vs, rfl, hD, e, p, nd, fr⟩
  rw [Int.zero_add]
  exact accL_turn (y := fun j => .int (j : Nat)) hD h1 hj he h
theorem lcLL_list {ns : List Nat} (g : Nat → List Nat) (hn : Ev te σ H x) (hx : Ln H x ns) (h1 : ns.length ≤ 1000) (he : ∀ j H', j < ns.length → Same H H' → Rs el (σ.set i (some (.int (at' ns j : Nat)))) H' fun H2 v => LnF H' H2 v (g j)) :
    Rs (tLc (iList K te) (gName i) tYes el [i]) σ H fun H' v => LL H' v ((List.range ns.length).map g) := fun Q q => by
  obtain ⟨p, rfl, hp⟩ := hx
  refine hn _ ⟨p, rfl, ⟨_, .of hp⟩, fun D hD => ?_⟩
  refine lc_list (K := K) (xs := nv ns) (AccL H D g) ⟨same_new hD, [], upd_same, .nil, List.nodup_nil, fun u hu => (by cases hu)⟩ (fun j H' _ h => .of (h.1 _ _ hp)) (fun j v H' hv h => ?_) fun H' ⟨s, vs, e, p, nd, fr⟩ => q _ _ s ⟨D, vs, rfl, e, by rwa [nv_len] at p, nd⟩
  have hj := (List.getElem?_eq_some_iff.mp hv).1
  rw [nv_len] at hj
  rw [nv_at hj] at hv
  cases hv
  exact accL_turn (y := fun j => .int (at' ns j : Nat)) hD h1 hj he h
theorem ev_idxNL {to : TE} {ns : List Nat} {n : Nat} (ho : Ev to σ H x) (hx : Ln H x ns) (he : Ev te σ H (.int (n : Nat))) (hm : n ∈ ns) : Ev (tM isL rIxNL to (tCons te tNil)) σ H (.int (ns.idxOf n : Nat)) := fun Q q => ho _ ⟨let ⟨a, e, h⟩ := hx; ⟨a, _, e, h⟩, he _ ⟨n, ns, rfl, hx, hm, q⟩⟩
/-- a call whose arguments are plainly there -/
theorem ea_nil : Ea tNil σ H [] := fun Q q => q
theorem ea_cons {ta : TE} {tr : TA} {v : V} {vs : List V} (h : Ev ta σ H v) (k : Ea tr σ H vs) : Ea (tCons ta tr) σ H (v :: vs) := fun Q q => h _ (k _ q)
theorem rs_call {sp : Sp} {t : TA} {vs : List V} {P : Hp → V → Prop} (h : Ea t σ H vs) (k : ∀ Q : VK, (∀ v H', Same H H' → P H' v → Q v H') → sp vs H Q E0) : Rs (tCall sp [] E0 t) σ H P := fun Q q => h _ (by
  rw [List.append_nil]
  exact k Q q)
end
end W7
end
section
set_option Elab.async false
set_option linter.all false
set_option maxRecDepth 100000
set_option maxHeartbeats 1000000
namespace W7
open PySem PySem.Spec PyProof.Rows L2 RZ K37 K37E M7
section
variable {nx bk ct : L2.St → Hp → Prop} {rt : VK} {σ : L2.St} {H : Hp} {t u : TS} {te to tn : TE} {c : TT} {K : PySem.W.Frag}
theorem while_ {tb : TS} (I : Nat → L2.St → Hp → Prop) (m0 : Nat) (h0 : I m0 σ H) (step : ∀ m σ H, I m σ H → ∃ b, Et c σ H b ∧ (b = true → tb ⟨fun σ' H' => ∃ m', m' < m ∧ I m' σ' H', rt, nx, fun σ' H' => ∃ m', m' < m ∧ I m' σ' H'⟩ σ H) ∧ (b = false → nx σ H)) :
    tWhile c tb ⟨nx, rt, bk, ct⟩ σ H := by
  refine ⟨I, ⟨m0, h0⟩, fun m σ H h => ?_⟩
  obtain ⟨b, e, h1, h2⟩ := step m σ H h
  refine e _ ?_
  cases b with
  | true => exact iteT ⟨_, fun _ _ q => q, h1 rfl⟩
  | false => exact iteF (h2 rfl)
theorem app_ {P : Hp → V → Prop} {l : Addr} {xs : List V} (ho : Ev to σ H (.ref l)) (h : H l = some (.lst xs)) (he : Rs te σ H P) (hs : xs.length < sizeLine) (k : ∀ v H', Same H H' → P H' v → nx σ (upd H' l (.lst (xs ++ [v])))) :
    tDrop (tM isL rApp7 to (tCons te tNil)) ⟨nx, rt, bk, ct⟩ σ H := ho _ ⟨⟨l, xs, rfl, h⟩, he _ fun v H' s p => ⟨l, xs, v, rfl, rfl, s _ _ h, hs, k v H' s p⟩⟩
theorem rs_tup2 {a b : TE} {x y : V} (ha : Ev a σ H x) (hb : Ev b σ H y) : Rs (tTup (tCons a (tCons b tNil))) σ H fun H' v => ∃ p, v = .ref p ∧ H p = none ∧ H' p = some (.tup [x, y]) := fun Q q => ha _ (hb _ ⟨by show 2 ≤ sizeLine; decide, fun p hp => q _ _ (same_new hp) ⟨p, rfl, hp, upd_same⟩⟩)
theorem rs_tup3 {a b d : TE} {x y z : V} (ha : Ev a σ H x) (hb : Ev b σ H y) (hd : Ev d σ H z) : Rs (tTup (tCons a (tCons b (tCons d tNil)))) σ H fun H' v => ∃ p, v = .ref p ∧ H p = none ∧ H' p = some (.tup [x, y, z]) := fun Q q => ha _ (hb _ (hd _ ⟨by show 3 ≤ sizeLine; decide, fun p hp => q _ _ (same_new hp) ⟨p, rfl, hp, upd_same⟩⟩))
theorem rs_pair {a b : TE} {x y : Nat} (ha : Ev a σ H (.int (x : Nat))) (hb : Ev b σ H (.int (y : Nat))) : Rs (tTup (tCons a (tCons b tNil))) σ H fun H' v => Pr H' v (x, y) := (rs_tup2 ha hb).imp fun H' v s ⟨p, e, _, h⟩ => ⟨p, e, h⟩
theorem rs_lst0 : Rs (tLst tNil) σ H fun H' v => ∃ p, v = .ref p ∧ H p = none ∧ H' p = some (.lst []) := fun Q q => ⟨by show 0 ≤ sizeLine; decide, fun p hp => q _ _ (same_new hp) ⟨p, rfl, hp, upd_same⟩⟩
theorem rs_isseq {x : V} (h : Ev te σ H x) (hx : isL x H ∨ isT x H) : Rs (tCB rIsSeq (tCons te (tCons (tTup (tCons (tC (.ty "list")) (tCons (tC (.ty "tuple")) tNil))) tNil))) σ H fun _ v => v = .bl true := fun Q q => h _ ⟨by show 2 ≤ sizeLine; decide, fun p hp => ⟨x, p, rfl, upd_same, by
  rcases hx with ⟨l, xs, e, h⟩ | ⟨l, xs, e, h⟩
  · exact .inl ⟨l, xs, e, same_new hp _ _ h⟩
  · exact .inr ⟨l, xs, e, same_new hp _ _ h⟩, q _ _ (same_new hp) rfl⟩⟩
theorem rs_heads {c : List Nat} {v : V} {i k : Nat} (hn : Ev tn σ H (.int (c.length : Nat))) (hc : Tn H v c) (h1 : c.length ≤ 1000) (hk : ∀ j : Nat, (σ.set i (some (.int (j : Nat))))[k]? = some (some v)) (hi : ∀ j : Nat, (σ.set i (some (.int (j : Nat))))[i]? = some (some (.int (j : Nat)))) :
    Rs (tLc (iRng1 (tCons tn tNil)) (gName i) (tTest (tOp rEq (tOp ixT (tVar k) (tVar i)) (tVar i))) (tVar i) [i]) σ H fun H' v => Ln H' v (heads c) := by
  refine (lcN_range (fun x => decide (at' c x = x)) (fun x => x) hn h1 (fun j H' hj s => et_t (ev_eqN (ev_ixT (ev_v (hk j)) (hc.same s) (ev_v (hi j)) hj) (ev_v (hi j)))) fun j H' hj hb s => ev_v (hi j)).imp fun H' u s h => ?_
  have e : ((List.range c.length).filter fun x => decide (at' c x = x)).map (fun x => x) = heads c := by rw [List.map_id']; rfl
  rw [e] at h
  exact h
theorem rs_lenL {P : Hp → V → Prop} {n : Nat} (h : Rs te σ H P) (k : ∀ H' v, P H' v → ∃ a vs, v = .ref a ∧ H' a = some (.lst vs) ∧ vs.length = n) : Rs (tCB rLen7 (tCons te tNil)) σ H fun _ v => v = .int (n : Nat) := fun Q q => h _ fun v H' s p => by
  obtain ⟨a, vs, rfl, ha, hl⟩ := k _ _ p
  exact ⟨a, vs, rfl, .inl ha, q _ _ s (by rw [hl])⟩
theorem rs_lenN {ns : List Nat} (h : Rs te σ H fun H' v => Ln H' v ns) : Rs (tCB rLen7 (tCons te tNil)) σ H fun _ v => v = .int (ns.length : Nat) := rs_lenL h fun H' v ⟨a, e, ha⟩ => ⟨a, _, e, ha, nv_len ns⟩
theorem es_neL {a b : TE} {x y : List Nat} (ha : Rs a σ H fun H' v => Ln H' v x) (hb : ∀ H', Same H H' → Rs b σ H' fun H2 v => Ln H2 v y) (e : x = y) : Es (tTest (tOp rNeL7 a b)) σ H false := fun Q q => ha _ fun v H1 s1 l1 => hb H1 s1 _ fun w H2 s2 l2 => ⟨x, y, l1.same s2, l2, false, by rw [decide_eq_false (fun z => z e)], q H2 (s1.trans s2)⟩
end
/-! ### a method's own def -/
section
variable {P : Program} {w : World} {K : PySem.W.Frag} {mg : Str → Option Value} {base : Heap}
theorem meth_ok {x q : Str} {st : Stmt} {N ps : List Str} {k : Nat} {sp : Sp} {f : Addr} {fd : FuncData} (F : FunD K x q (defArgs st) (defBody st) (defScope st) [] [] f fd) (S : FnScope N ps (defScope st))
    (hb : ∀ (kV doc pm : Value) (an : Option Addr) (cdv ct : Value) (us : List Value), us.length = ps.length → bindArgs (PySem.W.fnOf x q (defArgs st) (defBody st) (defScope st) .none kV doc pm an cdv ct) ⟨us, []⟩ = pure (ps.zip us))
    (len : ∀ vs H Q E, sp vs H Q E → vs.length = ps.length)
    (body : ∀ (f : Addr) (cdv : Value) (A : Around) (outer : List Env) (s : Shared) (H : Hp) (vs : List V) (Q : VK) (E : XK), Room k (A.deeper (envOfC q (defScope st) s.heap.objs.size f cdv)) → sp vs H Q E →
      ∃ t, PSs (cxOf CX0 P w K mg base N q (defScope st) f cdv A outer s H E).nox (defBody st) t ∧ t { nx := fun _ H' => Q .non H', rt := Q } (start N vs) H) : Binds K fd ps [] ∧ FnOk P w K mg base CX0 (k + 1) f fd ps sp :=
  ⟨F.bindsN hb, F.ok S len fun cdv A outer s H vs Q E hr h => let ⟨t, a, b⟩ := body f cdv A outer s H vs Q E hr h; ⟨t, a.nox, b⟩⟩
end
/-! ### plain facts -/
theorem filter_lt {α : Type} {p q : α → Bool} : ∀ {l : List α} {x : α}, (∀ z ∈ l, p z = true → q z = true) → x ∈ l → q x = true → p x = false → (l.filter p).length < (l.filter q).length
  | z :: l, x, h, hx, hq, hp => by
    have le : ∀ l : List α, (∀ z ∈ l, p z = true → q z = true) → (l.filter p).length ≤ (l.filter q).length := fun l => by
      induction l with
      | nil => intro _; exact Nat.le_refl _
      | cons y l ih =>
        intro h
        have h1 := ih fun z hz => h z (List.mem_cons_of_mem _ hz)
        by_cases hy : p y = true
        · rw [List.filter_cons_of_pos hy, List.filter_cons_of_pos (h y List.mem_cons_self hy)]
          exact Nat.succ_le_succ h1
        · rw [List.filter_cons_of_neg hy]
          by_cases hz : q y = true
          · rw [List.filter_cons_of_pos hz]
            exact Nat.le_succ_of_le h1
          · rw [List.filter_cons_of_neg hz]
            exact h1
    have h1 := fun z hz => h z (List.mem_cons_of_mem _ hz)
    rcases List.mem_cons.mp hx with rfl | hx
    · rw [List.filter_cons_of_pos hq, List.filter_cons_of_neg (by rw [hp]; decide)]
      exact Nat.lt_succ_of_le (le l h1)
    · have ih := filter_lt h1 hx hq hp
      by_cases hy : p z = true
      · rw [List.filter_cons_of_pos hy, List.filter_cons_of_pos (h z List.mem_cons_self hy)]
        exact Nat.succ_lt_succ ih
      · rw [List.filter_cons_of_neg hy]
        by_cases hz : q z = true
        · rw [List.filter_cons_of_pos hz]
          exact Nat.lt_succ_of_lt ih
        · rw [List.filter_cons_of_neg hz]
          exact ih
theorem heads_merge {n : Nat} {c : List Nat} {x y : Nat} (C : Canon n c) (hx : x < n) (hy : y < n) (ne : at' c x ≠ at' c y) : (heads (merge c (x, y))).length < (heads c).length := by
  have hl := C.len
  have hx2 := C.lt hx
  have hy2 := C.lt hy
  have fx := C.fix x hx
  have fy := C.fix y hy
  have lm := merge_len c (x, y)
  unfold heads
  rw [lm]
  have hm : ∀ u, u < c.length → at' (merge c (x, y)) u = if at' c u = max (at' c x) (at' c y) then min (at' c x) (at' c y) else at' c u := fun u hu => merge_at hu
  have hmax : max (at' c x) (at' c y) < c.length := by omega
  have fmax : at' c (max (at' c x) (at' c y)) = max (at' c x) (at' c y) := by
    rcases Nat.le_total (at' c x) (at' c y) with h | h
    · rw [Nat.max_eq_right h]; exact fy
    · rw [Nat.max_eq_left h]; exact fx
  have fmin : at' c (min (at' c x) (at' c y)) = min (at' c x) (at' c y) := by
    rcases Nat.le_total (at' c x) (at' c y) with h | h
    · rw [Nat.min_eq_left h]; exact fx
    · rw [Nat.min_eq_right h]; exact fy
  refine filter_lt (x := max (at' c x) (at' c y)) (fun u hu h => ?_) (List.mem_range.mpr hmax) (decide_eq_true fmax) (decide_eq_false ?_)
  · have hu := List.mem_range.mp hu
    have h := of_decide_eq_true h
    rw [hm u hu] at h
    apply decide_eq_true
    by_cases q : at' c u = max (at' c x) (at' c y)
    · rw [if_pos q] at h
      rw [← h, fmin] at q
      omega
    · rw [if_neg q] at h
      exact h
  · rw [hm _ hmax, if_pos fmax]
    omega
theorem heads_le (c : List Nat) : (heads c).length ≤ c.length := by
  have := List.length_filter_le (fun x => decide (at' c x = x)) (List.range c.length)
  rwa [List.length_range] at this
end W7
end
section
set_option Elab.async false
set_option linter.all false
set_option maxRecDepth 100000
set_option maxHeartbeats 1000000
namespace W7
open PySem PySem.Spec PyProof.Rows L2 RZ K37 K37E M7
section
variable {P : Program} {w : World} {K : PySem.W.Frag} {mg : Str → Option Value} {base : Heap} {C : Addr}
def spNumbers : Sp := fun vs H Q _ => ∃ (v : V) (n : Nat) (c : List Nat), vs = [v] ∧ Tn H v c ∧ Canon n c ∧ n ≤ 1000 ∧ ∀ u H', Same H H' → Tn H' u (numbers c) → Q u H'
theorem sc_class_numbers : FnScope ["classes", "heads", "x", "c"] ["classes"] (defScope s_class_numbers) := ⟨rfl, rfl, rfl, by decide +kernel, rfl, by decide +kernel, by decide +kernel⟩
theorem h_class_numbers (D : Dfn K mg "class_numbers" s_class_numbers) (T : Bl mg)  : Has P w K mg base "class_numbers" ["classes"] 1 (spNumbers) := by
  refine D.has sc_class_numbers (fun _ _ _ _ _ _ us hl => match us, hl with | [_], _ => rfl) (fun vs H Q E h => by obtain ⟨v, n, c, rfl, _⟩ := h; rfl) (fun f cdv A outer s H vs Q E hr h => ⟨_, (pss_cons (ps_set (i := 1) sc_class_numbers.nd rfl (Or.inr rfl) (pe_lc (own := [("x", 2)]) (g := gName 2) (by rfl) sc_class_numbers.nd (pi_range1 (by rfl) T.range (pa_cons (pe_callB len7 (by rfl) T.len (by decide +kernel) (pa_cons (pv 0) pa_nil)) pa_nil)) (blkOk_by (by kernel_rfl)) (fun _ _ _ _ _ => pg_name (i := 2) sc_class_numbers.nd rfl (Or.inl rfl)) (fun _ _ _ _ _ => (pts_one (pt_cmpR op_eq (pe_ix ix7T (pv 0) (pv 2) (fun _ _ => rfl)) (pv 2) (nomark _)))) (fun _ _ _ _ _ => (pv 2))))
      (pss_one (ps_ret (pe_callTy tup7 (by rfl) T.tuple (by decide +kernel) (pa_cons (pe_lc (own := [("c", 3)]) (g := gName 3) (by rfl) sc_class_numbers.nd (pi7T K (pv 0)) (blkOk_by (by kernel_rfl)) (fun _ _ _ _ _ => pg_name (i := 3) sc_class_numbers.nd rfl (Or.inl rfl)) (fun _ _ _ _ _ => pts_nil) (fun _ _ _ _ _ => (pe_l7 PySem.F.slot_list_index PySem.F.type_list_index (mt7NL (hu65 hr)) (pv 1) (pa_cons (pv 3) pa_nil)))) pa_nil))))), ?_⟩)
  obtain ⟨v, n, c, rfl, hv, Cn, hn, q⟩ := h
  have hl := Cn.len
  refine sq_ (sets_ (rs_heads (ev_lenTn (ev_v rfl) hv) hv (by omega) (fun _ => rfl) fun _ => rfl) fun v1 H1 s1 l1 => ?_)
  refine rets_ (rs_tupN (lcN_tup (fun y => (heads c).idxOf y) (ev_v rfl) (hv.same s1) (by omega) fun j H' hj s => ev_idxNL (ev_v rfl) (l1.same s) (ev_v rfl) ?_)) fun u H2 s2 h2 => q u H2 (s1.trans s2) h2
  exact mem_heads.mpr ⟨by have := Cn.lt (x := j) (by omega); omega, Cn.fix j (by omega)⟩
def spCount : Sp := fun vs H Q _ => ∃ (v : V) (c : List Nat), vs = [v] ∧ Tn H v c ∧ c.length ≤ 1000 ∧ ∀ H', Same H H' → Q (.int ((heads c).length : Nat)) H'
theorem sc_class_count : FnScope ["classes", "x"] ["classes"] (defScope s_class_count) := ⟨rfl, rfl, rfl, by decide +kernel, rfl, by decide +kernel, by decide +kernel⟩
theorem h_class_count (D : Dfn K mg "class_count" s_class_count) (T : Bl mg)  : Has P w K mg base "class_count" ["classes"] 1 (spCount) := by
  refine D.has sc_class_count (fun _ _ _ _ _ _ us hl => match us, hl with | [_], _ => rfl) (fun vs H Q E h => by obtain ⟨v, c, rfl, _⟩ := h; rfl) (fun f cdv A outer s H vs Q E hr h => ⟨_, (pss_one (ps_ret (pe_callB len7 (by rfl) T.len (by decide +kernel) (pa_cons (pe_lc (own := [("x", 1)]) (g := gName 1) (by rfl) sc_class_count.nd (pi_range1 (by rfl) T.range (pa_cons (pe_callB len7 (by rfl) T.len (by decide +kernel) (pa_cons (pv 0) pa_nil)) pa_nil)) (blkOk_by (by kernel_rfl)) (fun _ _ _ _ _ => pg_name (i := 1) sc_class_count.nd rfl (Or.inl rfl)) (fun _ _ _ _ _ => (pts_one (pt_cmpR op_eq (pe_ix ix7T (pv 0) (pv 1) (fun _ _ => rfl)) (pv 1) (nomark _)))) (fun _ _ _ _ _ => (pv 1))) pa_nil)))), ?_⟩)
  obtain ⟨v, c, rfl, hv, hn, q⟩ := h
  exact rets_ (rs_lenN (rs_heads (ev_lenTn (ev_v rfl) hv) hv hn (fun _ => rfl) (fun _ => rfl))) fun v1 H1 s1 e => e ▸ q H1 s1
def spCong : Sp := fun vs H Q _ => ∃ (sv v : V) (t : List (List Nat)) (c : List Nat), vs = [sv, v] ∧ SG C H sv t ∧ Sq t ∧ Tn H v c ∧ IsCong t c ∧ ∀ H', Same H H' → Q (.bl true) H'
theorem sc_is_congruence : FnScope ["s", "value", "x", "z"] ["s", "value"] (defScope s_is_congruence) := ⟨rfl, rfl, rfl, by decide +kernel, rfl, by decide +kernel, by decide +kernel⟩
theorem h_is_congruence (D : Dfn K mg "is_congruence" s_is_congruence) (T : Bl mg) (S : SemF K mg C) (H_is_equivalence : Has P w K mg base "is_equivalence" ["value", "n"] 2 spEqv) : Has P w K mg base "is_congruence" ["s", "value"] 3 (spCong (C:=C)) := by
  refine D.has sc_is_congruence (fun _ _ _ _ _ _ us hl => match us, hl with | [_, _], _ => rfl) (fun vs H Q E h => by obtain ⟨sv, v, t, c, rfl, _⟩ := h; rfl) (fun f cdv A outer s H vs Q E hr h => ⟨_, (pss_cons (ps_if (pt_not (pt_val (pe_has H_is_equivalence (hr.mono (by decide)) (pa_cons (pv 1) (pa_cons (pe_fldN S (pv 0)) pa_nil))))) (pss_one (ps_ret pe_bl)) pss_nil)
      (pss_cons (ps_for PassesOwn.never (by rfl) (pi_range1 (by rfl) T.range (pa_cons (pe_fldN S (pv 0)) pa_nil)) (pg_name (i := 2) sc_is_congruence.nd rfl (Or.inl rfl)) (pss_one (ps_for PassesOwn.never (by rfl) (pi_range1 (by rfl) T.range (pa_cons (pe_fldN S (pv 0)) pa_nil)) (pg_name (i := 3) sc_is_congruence.nd rfl (Or.inl rfl)) (pss_cons (ps_if (pt_cmpR op_ne (pe_ix ix7T (pv 1) (pe_ix ix7T (pe_ix ix7T (pe_fldT S (pv 0)) (pv 2) (fun _ _ => rfl)) (pv 3) (fun _ _ => rfl)) (fun _ _ => rfl)) (pe_ix ix7T (pv 1) (pe_ix ix7T (pe_ix ix7T (pe_fldT S (pv 0)) (pe_ix ix7T (pv 1) (pv 2) (fun _ _ => rfl)) (fun _ _ => rfl)) (pv 3) (fun _ _ => rfl)) (fun _ _ => rfl)) (nomark _)) (pss_one (ps_ret pe_bl)) pss_nil)
      (pss_one (ps_if (pt_cmpR op_ne (pe_ix ix7T (pv 1) (pe_ix ix7T (pe_ix ix7T (pe_fldT S (pv 0)) (pv 3) (fun _ _ => rfl)) (pv 2) (fun _ _ => rfl)) (fun _ _ => rfl)) (pe_ix ix7T (pv 1) (pe_ix ix7T (pe_ix ix7T (pe_fldT S (pv 0)) (pv 3) (fun _ _ => rfl)) (pe_ix ix7T (pv 1) (pv 2) (fun _ _ => rfl)) (fun _ _ => rfl)) (fun _ _ => rfl)) (nomark _)) (pss_one (ps_ret pe_bl)) pss_nil))))))
      (pss_one (ps_ret pe_bl)))), ?_⟩)
  obtain ⟨sv, v, t, c, rfl, hs, Sqt, hv, Ct, q⟩ := h
  have hl := Ct.canon.len
  have hn : t.length ≤ 1000 := by have := Sqt.le; omega
  refine sq_ (chks_ (es_not (b := true) (es_b (rs_call (ea_cons (ev_v rfl) (ea_cons (ev_n (ev_v rfl) hs) ea_nil)) fun Q q => ⟨v, t.length, c, rfl, hv, Ct.canon, hn, q _ _ (Same.refl _) rfl⟩))) fun H1 s1 => ?_)
  refine sq_ (forR_ (n := t.length) (ev_n (ev_v rfl) (hs.same s1)) (sl1000 hn) (fun i σ H' => Same H H' ∧ ∃ a b, σ = [some sv, some v, a, b]) ⟨s1, none, none, rfl⟩ (fun i σ H' hi hσ => ?_) fun σ H' hσ => ?_)
  · obtain ⟨s2, a, b, rfl⟩ := hσ
    refine forR_ (n := t.length) (ev_n (ev_v rfl) (hs.same s2)) (sl1000 hn) (fun j σ H' => Same H H' ∧ ∃ b, σ = [some sv, some v, some (.int (i : Nat)), b]) ⟨s2, b, rfl⟩ (fun j σ H' hj hσ => ?_) fun σ H' hσ => ?_
    · obtain ⟨s3, b, rfl⟩ := hσ
      have hci : at' c i < t.length := Ct.canon.lt hi
      have evi : Ev (tOp ixT (tVar 1) (tVar 2)) [some sv, some v, some (.int (i : Nat)), some (.int (j : Nat))] H' (.int (at' c i : Nat)) := ev_ixT (ev_v rfl) (hv.same s3) (ev_v rfl) (by omega)
      have co := Ct.comp i (at' c i) j hi hci hj (Ct.canon.fix i hi).symm
      have m1 := Sqt.mul_lt hi hj
      have m2 := Sqt.mul_lt hci hj
      have m3 := Sqt.mul_lt hj hi
      have m4 := Sqt.mul_lt hj hci
      refine sq_ (chk_ (et_of (et_t (ev_neN (ev_ixT (ev_v rfl) (hv.same s3) (ev_tab Sqt (ev_v rfl) (hs.same s3) (ev_v rfl) (ev_v rfl) hi hj) (by omega)) (ev_ixT (ev_v rfl) (hv.same s3) (ev_tab Sqt (ev_v rfl) (hs.same s3) evi (ev_v rfl) hci hj) (by omega)))) (by simp [co.1])) ?_)
      refine chk_ (et_of (et_t (ev_neN (ev_ixT (ev_v rfl) (hv.same s3) (ev_tab Sqt (ev_v rfl) (hs.same s3) (ev_v rfl) (ev_v rfl) hj hi) (by omega)) (ev_ixT (ev_v rfl) (hv.same s3) (ev_tab Sqt (ev_v rfl) (hs.same s3) (ev_v rfl) evi hj hci) (by omega)))) (by simp [co.2])) ?_
      exact ⟨s3, _, rfl⟩
    · obtain ⟨s3, b, rfl⟩ := hσ
      exact ⟨s3, _, _, rfl⟩
  · exact q H' hσ.1
def spAssoc : Sp := fun vs H Q _ => ∃ (v : V) (t : List (List Nat)), vs = [v] ∧ Tt H v t ∧ Sq t ∧ Assoc t ∧ ∀ H', Same H H' → Q (.bl true) H'
theorem sc_is_associative : FnScope ["table", "row", "y", "z", "item"] ["table"] (defScope s_is_associative) := ⟨rfl, rfl, rfl, by decide +kernel, rfl, by decide +kernel, by decide +kernel⟩
theorem h_is_associative (D : Dfn K mg "is_associative" s_is_associative) (T : Bl mg)  : Has P w K mg base "is_associative" ["table"] 1 (spAssoc) := by
  refine D.has sc_is_associative (fun _ _ _ _ _ _ us hl => match us, hl with | [_], _ => rfl) (fun vs H Q E h => by obtain ⟨v, t, rfl, _⟩ := h; rfl) (fun f cdv A outer s H vs Q E hr h => ⟨_, (pss_cons (ps_for PassesOwn.never (by rfl) (pi7T K (pv 0)) (pg_name (i := 1) sc_is_associative.nd rfl (Or.inr rfl)) (pss_one (ps_for PassesOwn.never (by rfl) (pi_range1 (by rfl) T.range (pa_cons (pe_callB len7 (by rfl) T.len (by decide +kernel) (pa_cons (pv 0) pa_nil)) pa_nil)) (pg_name (i := 2) sc_is_associative.nd rfl (Or.inr rfl)) (pss_one (ps_if (pt_cmpR (neL7 hr.units) (pe_lc (own := [("z", 3)]) (g := gName 3) (by rfl) sc_is_associative.nd (pi_range1 (by rfl) T.range (pa_cons (pe_callB len7 (by rfl) T.len (by decide +kernel) (pa_cons (pv 0) pa_nil)) pa_nil)) (blkOk_by (by kernel_rfl)) (fun _ _ _ _ _ => pg_name (i := 3) sc_is_associative.nd rfl (Or.inl rfl)) (fun _ _ _ _ _ => pts_nil) (fun _ _ _ _ _ => (pe_ix ix7T (pe_ix ix7T (pv 0) (pe_ix ix7T (pv 1) (pv 2) (fun _ _ => rfl)) (fun _ _ => rfl)) (pv 3) (fun _ _ => rfl)))) (pe_lc (own := [("item", 4)]) (g := gName 4) (by rfl) sc_is_associative.nd (pi7T K (pe_ix ix7T (pv 0) (pv 2) (fun _ _ => rfl))) (blkOk_by (by kernel_rfl)) (fun _ _ _ _ _ => pg_name (i := 4) sc_is_associative.nd rfl (Or.inl rfl)) (fun _ _ _ _ _ => pts_nil) (fun _ _ _ _ _ => (pe_ix ix7T (pv 1) (pv 4) (fun _ _ => rfl)))) (nomark _)) (pss_one (ps_ret pe_bl)) pss_nil)))))
      (pss_one (ps_ret pe_bl))), ?_⟩)
  obtain ⟨v, t, rfl, hv, Sqt, As, q⟩ := h
  have hn : t.length ≤ 1000 := by have := Sqt.le; omega
  obtain ⟨p, vs, rfl, hp, pr⟩ := id hv
  refine sq_ (forT_ (p := p) (xs := vs) (ev_v rfl) hp (fun i σ H' => Same H H' ∧ ∃ a b c d, σ = [some (.ref p), a, b, c, d]) ⟨Same.refl H, none, none, none, none, rfl⟩ (fun i σ H' h => h.1 _ _ hp) (fun i x σ H' hx h => ?_) fun σ H' h => q H' h.1)
  obtain ⟨s1, a, b, c, d, rfl⟩ := h
  obtain ⟨r, hr, hxr⟩ := prd_at' pr hx
  have hi : i < t.length := (List.getElem?_eq_some_iff.mp hr).1
  have er : r = t.getD i [] := by rw [row_get hi] at hr; exact (Option.some.inj hr).symm
  have lr : r.length = t.length := by rw [er]; exact sq_row Sqt hi
  have emul : ∀ z, at' r z = mul t i z := fun z => by rw [er]; rfl
  refine forR_ (n := t.length) (ev_lenTt (ev_v rfl) (hv.same s1)) (sl1000 hn) (fun j σ H' => Same H H' ∧ ∃ b c d, σ = [some (.ref p), some x, b, c, d]) ⟨s1, b, c, d, rfl⟩ (fun j σ H' hj h => ?_) fun σ H' h => ?_
  · obtain ⟨s2, b, c, d, rfl⟩ := h
    have h1 := Sqt.mul_lt hi hj
    have evr : ∀ {H2 : Hp} {c d}, Same H H2 → Ev (tOp ixT (tVar 1) (tVar 2)) [some (.ref p), some x, some (.int (j : Nat)), c, d] H2 (.int (mul t i j : Nat)) := fun {H2 c d} s => by
      have := ev_ixT (σ := [some (.ref p), some x, some (.int (j : Nat)), c, d]) (ev_v (i := 1) rfl) (hxr.same s) (ev_v (i := 2) (v := .int (j : Nat)) rfl) (by omega)
      rw [emul] at this
      exact this
    refine chks_ (es_neL (x := (List.range t.length).map fun z => mul t (mul t i j) z) (y := ((t.getD j []).map fun z => at' r z)) ((lcN_range (fun _ => true) (fun z => mul t (mul t i j) z) (ev_lenTt (ev_v rfl) (hv.same s2)) hn (fun _ _ _ _ Q q => q) fun z H3 hz _ s3 => ev_tt (ev_v rfl) (hv.same (s2.trans s3)) (evr (s2.trans s3)) (ev_v rfl) h1 (by rw [sq_row Sqt h1]; exact hz)).imp fun _ _ _ l => by rwa [filter_true] at l) (fun H3 s3 => ?_) ?_) fun H3 s3 => ⟨s2.trans s3, _, _, _, rfl⟩
    · obtain ⟨u, hu, hur⟩ := prd_at pr (row_get hj)
      have lj := sq_row Sqt hj
      have evj : Ev (tOp ixT (tVar 0) (tVar 2)) [some (.ref p), some x, some (.int (j : Nat)), c, d] H3 u := ev_ixTv (ev_v rfl) ((s2.trans s3) _ _ hp) (ev_v rfl) hu
      refine lcN_tup (fun z => at' r z) evj (hur.same (s2.trans s3)) (by omega) fun k H4 hk s4 => ?_
      have hlt : at' (t.getD j []) k < t.length := by
        have e2 : t.getD j [] = t[j] := row_getD hj
        rw [e2] at hk ⊢
        exact (Sqt.row _ (List.getElem_mem hj)).2 _ (at_mem hk)
      exact ev_ixT (ev_v rfl) (hxr.same ((s2.trans s3).trans s4)) (ev_v rfl) (by omega)
    · have lj := sq_row Sqt hj
      refine ext_at (by rw [List.length_map, List.length_map, List.length_range, lj]) fun z hz => ?_
      rw [List.length_map, List.length_range] at hz
      rw [at_map (by rw [List.length_range]; exact hz), at_range hz, at_map (by omega), emul]
      show mul t (mul t i j) z = mul t i (mul t j z)
      exact As i j z hi hj hz
  · obtain ⟨s2, b, c, d, rfl⟩ := h
    exact ⟨s2, _, _, _, _, rfl⟩
/-! ### the class -/
/-- a list of rows, each a tuple or each a list -/
def Rows (H : Hp) (v : V) (t : List (List Nat)) : Prop := Lt H v t ∨ LL H v t
def spTaken : Sp := fun vs H Q _ => ∃ (v : V) (t : List (List Nat)), vs = [v] ∧ Rows H v t ∧ Sq t ∧ ∀ u H', Same H H' → Tt H' u t → Q u H'
theorem sc_taken_table : FnScope ["table", "found", "row", "item"] ["table"] (defScope s_taken_table) := ⟨rfl, rfl, rfl, by decide +kernel, rfl, by decide +kernel, by decide +kernel⟩
theorem h_taken_table (D : Dfn K mg "taken_table" s_taken_table) (T : Bl mg) (H_is_item : Has P w K mg base "is_item" ["value", "n"] 2 spItem) : Has P w K mg base "taken_table" ["table"] 3 spTaken := by
  refine D.has sc_taken_table (fun _ _ _ _ _ _ us hl => match us, hl with | [_], _ => rfl) (fun vs H Q E h => by obtain ⟨v, t, rfl, _⟩ := h; rfl) (fun f cdv A outer s H vs Q E hr h => ?_)
  obtain ⟨v, t, rfl, hv, Sqt, q⟩ := h
  have hn : t.length ≤ 1000 := by have := Sqt.le; omega
  have hp := Sqt.pos
  rcases hv with hv | hv
  · refine ⟨_, (pss_cons (ps_if (PW.pt (pw_or (pt_not (pt_val (pe_callB isSeq7 (by rfl) T.isinstance (by decide +kernel) (pa_cons (pv 0) (pa_cons (pe_tup (pa_cons (pe_bltn (v := .ty "list") (by rfl) T.list boot_list rfl) (pa_cons (pe_bltn (v := .ty "tuple") (by rfl) T.tuple boot_tuple rfl) pa_nil))) pa_nil))))) (pw_or1 (pt_cmpR op_eq (pe_callB len7 (by rfl) T.len (by decide +kernel) (pa_cons (pv 0) pa_nil)) pe_int (nomark _))))) (pss_one ps_never) pss_nil)
      (pss_cons (ps_set (i := 1) sc_taken_table.nd rfl (Or.inl rfl) (pe_lst pa_nil))
      (pss_cons (ps_for PassesOwn.never (by rfl) (pi7L K (pv 0)) (pg_name (i := 2) sc_taken_table.nd rfl (Or.inl rfl)) (pss_cons (ps_if (PW.pt (pw_or (pt_not (pt_val (pe_callB isSeq7 (by rfl) T.isinstance (by decide +kernel) (pa_cons (pv 2) (pa_cons (pe_tup (pa_cons (pe_bltn (v := .ty "list") (by rfl) T.list boot_list rfl) (pa_cons (pe_bltn (v := .ty "tuple") (by rfl) T.tuple boot_tuple rfl) pa_nil))) pa_nil))))) (pw_or1 (pt_cmpR op_ne (pe_callB len7 (by rfl) T.len (by decide +kernel) (pa_cons (pv 2) pa_nil)) (pe_callB len7 (by rfl) T.len (by decide +kernel) (pa_cons (pv 0) pa_nil)) (nomark _))))) (pss_one ps_never) pss_nil)
      (pss_cons (ps_for PassesOwn.never (by rfl) (pi7T K (pv 2)) (pg_name (i := 3) sc_taken_table.nd rfl (Or.inl rfl)) (pss_one (ps_if (pt_not (pt_val (pe_has H_is_item (hr.mono (by decide)) (pa_cons (pv 3) (pa_cons (pe_callB len7 (by rfl) T.len (by decide +kernel) (pa_cons (pv 0) pa_nil)) pa_nil))))) (pss_one ps_never) pss_nil)))
      (pss_one (ps_expr (pe_l7 PySem.F.slot_list_append PySem.F.type_list_append app7 (pv 1) (pa_cons (pe_callTy tup7 (by rfl) T.tuple (by decide +kernel) (pa_cons (pv 2) pa_nil)) pa_nil)))))))
      (pss_one (ps_ret (pe_callTy tup7 (by rfl) T.tuple (by decide +kernel) (pa_cons (pv 1) pa_nil))))))), ?_⟩
    obtain ⟨p, vs, rfl, hp1, pr⟩ := hv
    have hl := prd_len pr
    have rowOk : ∀ {i x H'}, vs[i]? = some x → Same H H' → ∃ r, t[i]? = some r ∧ Tn H' x r := fun hx s => let ⟨r, a, b⟩ := prd_at' pr hx; ⟨r, a, b.same s⟩
    have lenOk : ∀ {σ : L2.St} {H'}, σ[0]? = some (some (V.ref p)) → Same H H' → Ev (tCB rLen7 (tCons (tVar 0) tNil)) σ H' (.int (t.length : Nat)) := fun e s => by
      have := ev_lenL (ev_v e) (s _ _ hp1)
      rwa [hl] at this
    refine sq_ (chks_ (es_or (a := false) (b := false) (es_not (b := true) (es_b (rs_isseq (ev_v rfl) (.inl ⟨p, vs, rfl, hp1⟩)))) fun _ H1 s1 => (et_of (et_t (ev_eqN (lenOk rfl s1) (ev_c (v := .int (0 : Nat))))) (decide_eq_false (by omega))).es) fun H1 s1 => ?_)
    refine sq_ (sets_ rs_lst0 fun v2 H2 s2 hl2 => ?_)
    obtain ⟨l, rfl, hn2, hl2⟩ := hl2
    have hl0 : H l = none := s1.free hn2
    refine sq_ (forL_ (p := p) (xs := vs) (ev_v rfl) ((s1.trans s2) _ _ hp1) (fun i σ H' => Same H H' ∧ (∃ us, H' l = some (.lst us) ∧ Paired (Tn H') us (t.take i)) ∧ ∃ a b, σ = [some (.ref p), some (.ref l), a, b]) ⟨s1.trans s2, ⟨[], hl2, .nil⟩, none, none, rfl⟩ (fun i σ H' h => h.1 _ _ hp1) (fun i x σ H' hx h => ?_) fun σ H' h => ?_)
    · obtain ⟨s3, ⟨us, hus, pus⟩, a, b, rfl⟩ := h
      obtain ⟨r, hr, hxr⟩ := rowOk hx s3
      have hmem : r ∈ t := List.mem_of_getElem? hr
      have hrl := (Sqt.row r hmem).1
      obtain ⟨rp, rfl, hrp⟩ := id hxr
      refine sq_ (chks_ (es_or (a := false) (b := false) (es_not (b := true) (es_b (rs_isseq (ev_v rfl) (.inr ⟨rp, _, rfl, hrp⟩)))) fun _ H4 s4 => (et_of (et_t (ev_neN (ev_lenTn (ev_v (i := 2) rfl) (hxr.same s4)) (lenOk rfl (s3.trans s4)))) (by simp [hrl])).es) fun H4 s4 => ?_)
      refine sq_ (forT_ (p := rp) (xs := nv r) (ev_v rfl) (s4 _ _ hrp) (fun j σ H' => Same H H' ∧ Same H4 H' ∧ ∃ b, σ = [some (.ref p), some (.ref l), some (.ref rp), b]) ⟨s3.trans s4, Same.refl _, b, rfl⟩ (fun j σ H' h => (s4.trans h.2.1) _ _ hrp) (fun j z σ H' hz h => ?_) fun σ H' h => ?_)
      · obtain ⟨s5, s45, b, rfl⟩ := h
        have hj := (List.getElem?_eq_some_iff.mp hz).1
        rw [nv_len] at hj
        rw [nv_at hj] at hz
        cases hz
        have hlt := (Sqt.row r hmem).2 _ (at_mem hj)
        exact chks_ (es_not (b := true) (es_b (rs_call (ea_cons (ev_v rfl) (ea_cons (lenOk rfl s5) ea_nil)) fun Q q => ⟨at' r j, t.length, rfl, hlt, q _ _ (Same.refl _) rfl⟩))) fun H6 s6 => ⟨s5.trans s6, s45.trans s6, _, rfl⟩
      · obtain ⟨s5, s45, b, rfl⟩ := h
        have e5 : H' l = some (.lst us) := (s4.trans s45) _ _ hus
        have small : us.length < sizeLine := by
          have := prd_len pus
          rw [List.length_take] at this
          have h1 : 1000 < sizeLine := by decide
          omega
        have hxr5 := hxr.same (s4.trans s45)
        refine app_ (l := l) (xs := us) (P := fun H2 u => Tn H2 u r) (ev_v rfl) e5 (fun Q q => ev_v rfl _ ⟨rp, nv r, rfl, .inr ⟨(s4.trans s45) _ _ hrp, q _ _ (Same.refl _) hxr5⟩⟩) small fun u H6 s6 hu => ⟨same_put (s5.trans s6) hl0, ⟨us ++ [u], upd_same, ?_⟩, _, _, rfl⟩
        have fx6 := fx_put (o := .lst (us ++ [u])) (s6 _ _ e5)
        rw [take_snoc hr]
        exact prd_app (tns_fx pus ((fx_of ((s4.trans s45).trans s6)).trans fx6)) (prd_one (hu.fx fx6))
    · obtain ⟨s3, ⟨us, hus, pus⟩, a, b, rfl⟩ := h
      rw [hl, List.take_length] at pus
      exact rets_ (rs_tupT (t := t) ((ev_v rfl).rs ⟨l, us, rfl, hus, pus⟩)) fun u H4 s4 h4 => q u H4 (s3.trans s4) h4
  · refine ⟨_, (pss_cons (ps_if (PW.pt (pw_or (pt_not (pt_val (pe_callB isSeq7 (by rfl) T.isinstance (by decide +kernel) (pa_cons (pv 0) (pa_cons (pe_tup (pa_cons (pe_bltn (v := .ty "list") (by rfl) T.list boot_list rfl) (pa_cons (pe_bltn (v := .ty "tuple") (by rfl) T.tuple boot_tuple rfl) pa_nil))) pa_nil))))) (pw_or1 (pt_cmpR op_eq (pe_callB len7 (by rfl) T.len (by decide +kernel) (pa_cons (pv 0) pa_nil)) pe_int (nomark _))))) (pss_one ps_never) pss_nil)
      (pss_cons (ps_set (i := 1) sc_taken_table.nd rfl (Or.inl rfl) (pe_lst pa_nil))
      (pss_cons (ps_for PassesOwn.never (by rfl) (pi7L K (pv 0)) (pg_name (i := 2) sc_taken_table.nd rfl (Or.inl rfl)) (pss_cons (ps_if (PW.pt (pw_or (pt_not (pt_val (pe_callB isSeq7 (by rfl) T.isinstance (by decide +kernel) (pa_cons (pv 2) (pa_cons (pe_tup (pa_cons (pe_bltn (v := .ty "list") (by rfl) T.list boot_list rfl) (pa_cons (pe_bltn (v := .ty "tuple") (by rfl) T.tuple boot_tuple rfl) pa_nil))) pa_nil))))) (pw_or1 (pt_cmpR op_ne (pe_callB len7 (by rfl) T.len (by decide +kernel) (pa_cons (pv 2) pa_nil)) (pe_callB len7 (by rfl) T.len (by decide +kernel) (pa_cons (pv 0) pa_nil)) (nomark _))))) (pss_one ps_never) pss_nil)
      (pss_cons (ps_for PassesOwn.never (by rfl) (pi7L K (pv 2)) (pg_name (i := 3) sc_taken_table.nd rfl (Or.inl rfl)) (pss_one (ps_if (pt_not (pt_val (pe_has H_is_item (hr.mono (by decide)) (pa_cons (pv 3) (pa_cons (pe_callB len7 (by rfl) T.len (by decide +kernel) (pa_cons (pv 0) pa_nil)) pa_nil))))) (pss_one ps_never) pss_nil)))
      (pss_one (ps_expr (pe_l7 PySem.F.slot_list_append PySem.F.type_list_append app7 (pv 1) (pa_cons (pe_callTy tup7 (by rfl) T.tuple (by decide +kernel) (pa_cons (pv 2) pa_nil)) pa_nil)))))))
      (pss_one (ps_ret (pe_callTy tup7 (by rfl) T.tuple (by decide +kernel) (pa_cons (pv 1) pa_nil))))))), ?_⟩
    obtain ⟨p, vs, rfl, hp1, pr, _⟩ := hv
    have hl := prd_len pr
    have rowOk : ∀ {i x H'}, vs[i]? = some x → Same H H' → ∃ r, t[i]? = some r ∧ Ln H' x r := fun hx s => let ⟨r, a, b, e, _, c⟩ := prd_at' pr hx; ⟨r, a, b, e, s _ _ c⟩
    have lenOk : ∀ {σ : L2.St} {H'}, σ[0]? = some (some (V.ref p)) → Same H H' → Ev (tCB rLen7 (tCons (tVar 0) tNil)) σ H' (.int (t.length : Nat)) := fun e s => by
      have := ev_lenL (ev_v e) (s _ _ hp1)
      rwa [hl] at this
    refine sq_ (chks_ (es_or (a := false) (b := false) (es_not (b := true) (es_b (rs_isseq (ev_v rfl) (.inl ⟨p, vs, rfl, hp1⟩)))) fun _ H1 s1 => (et_of (et_t (ev_eqN (lenOk rfl s1) (ev_c (v := .int (0 : Nat))))) (decide_eq_false (by omega))).es) fun H1 s1 => ?_)
    refine sq_ (sets_ rs_lst0 fun v2 H2 s2 hl2 => ?_)
    obtain ⟨l, rfl, hn2, hl2⟩ := hl2
    have hl0 : H l = none := s1.free hn2
    refine sq_ (forL_ (p := p) (xs := vs) (ev_v rfl) ((s1.trans s2) _ _ hp1) (fun i σ H' => Same H H' ∧ (∃ us, H' l = some (.lst us) ∧ Paired (Tn H') us (t.take i)) ∧ ∃ a b, σ = [some (.ref p), some (.ref l), a, b]) ⟨s1.trans s2, ⟨[], hl2, .nil⟩, none, none, rfl⟩ (fun i σ H' h => h.1 _ _ hp1) (fun i x σ H' hx h => ?_) fun σ H' h => ?_)
    · obtain ⟨s3, ⟨us, hus, pus⟩, a, b, rfl⟩ := h
      obtain ⟨r, hr, hxr⟩ := rowOk hx s3
      have hmem : r ∈ t := List.mem_of_getElem? hr
      have hrl := (Sqt.row r hmem).1
      obtain ⟨rp, rfl, hrp⟩ := id hxr
      refine sq_ (chks_ (es_or (a := false) (b := false) (es_not (b := true) (es_b (rs_isseq (ev_v rfl) (.inl ⟨rp, _, rfl, hrp⟩)))) fun _ H4 s4 => (et_of (et_t (ev_neN (ev_lenLn (ev_v (i := 2) rfl) (hxr.same s4)) (lenOk rfl (s3.trans s4)))) (by simp [hrl])).es) fun H4 s4 => ?_)
      refine sq_ (forL_ (p := rp) (xs := nv r) (ev_v rfl) (s4 _ _ hrp) (fun j σ H' => Same H H' ∧ Same H4 H' ∧ ∃ b, σ = [some (.ref p), some (.ref l), some (.ref rp), b]) ⟨s3.trans s4, Same.refl _, b, rfl⟩ (fun j σ H' h => (s4.trans h.2.1) _ _ hrp) (fun j z σ H' hz h => ?_) fun σ H' h => ?_)
      · obtain ⟨s5, s45, b, rfl⟩ := h
        have hj := (List.getElem?_eq_some_iff.mp hz).1
        rw [nv_len] at hj
        rw [nv_at hj] at hz
        cases hz
        have hlt := (Sqt.row r hmem).2 _ (at_mem hj)
        exact chks_ (es_not (b := true) (es_b (rs_call (ea_cons (ev_v rfl) (ea_cons (lenOk rfl s5) ea_nil)) fun Q q => ⟨at' r j, t.length, rfl, hlt, q _ _ (Same.refl _) rfl⟩))) fun H6 s6 => ⟨s5.trans s6, s45.trans s6, _, rfl⟩
      · obtain ⟨s5, s45, b, rfl⟩ := h
        have e5 : H' l = some (.lst us) := (s4.trans s45) _ _ hus
        have small : us.length < sizeLine := by
          have := prd_len pus
          rw [List.length_take] at this
          have h1 : 1000 < sizeLine := by decide
          omega
        have hxr5 := hxr.same (s4.trans s45)
        refine app_ (l := l) (xs := us) (P := fun H2 u => Tn H2 u r) (ev_v rfl) e5 (rs_tupN ((ev_v rfl).rs hxr5)) small fun u H6 s6 hu => ⟨same_put (s5.trans s6) hl0, ⟨us ++ [u], upd_same, ?_⟩, _, _, rfl⟩
        have fx6 := fx_put (o := .lst (us ++ [u])) (s6 _ _ e5)
        rw [take_snoc hr]
        exact prd_app (tns_fx pus ((fx_of ((s4.trans s45).trans s6)).trans fx6)) (prd_one (hu.fx fx6))
    · obtain ⟨s3, ⟨us, hus, pus⟩, a, b, rfl⟩ := h
      rw [hl, List.take_length] at pus
      exact rets_ (rs_tupT (t := t) ((ev_v rfl).rs ⟨l, us, rfl, hus, pus⟩)) fun u H4 s4 h4 => q u H4 (s3.trans s4) h4
end
end W7
end
section
set_option Elab.async false
set_option linter.all false
set_option maxRecDepth 100000
set_option maxHeartbeats 1000000
namespace W7
open PySem PySem.Spec PyProof.Rows L2 RZ K37 K37E M7
def Tf (H H' : Hp) : Prop := ∀ b xs, H b = some (.tup xs) → H' b = some (.tup xs)
theorem Tn.tf {H H' : Hp} {v : V} {ns : List Nat} (h : Tn H v ns) (f : Tf H H') : Tn H' v ns := let ⟨a, e, q⟩ := h; ⟨a, e, f _ _ q⟩
theorem Tt.tf {H H' : Hp} {v : V} {t : List (List Nat)} (h : Tt H v t) (f : Tf H H') : Tt H' v t := let ⟨a, vs, e, q, p⟩ := h; ⟨a, vs, e, f _ _ q, prd_imp p fun _ _ r => r.tf f⟩
theorem tf_put {H : Hp} {l : Addr} {o u : HO} (h : H l = some u) (n : ∀ xs, u ≠ .tup xs) : Tf H (upd H l o) := fun b xs e => by
  rw [upd_ne]
  · exact e
  · intro z
    subst z
    rw [h] at e
    exact n xs (Option.some.inj e)
section
variable {P : Program} {w : World} {K : PySem.W.Frag} {mg : Str → Option Value} {base : Heap} {C : Addr}
theorem fld_ {nx bk ct : L2.St → Hp → Prop} {rt : VK} {σ : L2.St} {H : Hp} {ta tv : TE} {y : V} {a dx : Addr} {fs : List (Str × V)} {n : Str} (hv : Ev tv σ H y) (ha : Ev ta σ H (.ref a)) (h : H a = some (.ins C dx fs)) (c : Cls K C) (no : NoAttr K C n) (hl : fs.length < 1000)
    (k : nx σ (upd H a (.ins C dx (putF n y fs)))) : sFld K ta tv n ⟨nx, rt, bk, ct⟩ σ H := hv _ (ha _ ⟨a, C, dx, fs, rfl, h, c, no, hl, k⟩)
def spInit (C : Addr) : Sp := fun vs H Q _ => ∃ (x dx : Addr) (v : V) (t : List (List Nat)), vs = [.ref x, v] ∧ H x = some (.ins C dx []) ∧ Rows H v t ∧ Sq t ∧ Assoc t ∧
  ∀ H' tv, (∀ b o, b ≠ x → H b = some o → H' b = some o) → H' x = some (.ins C dx [("n", .int (t.length : Nat)), ("table", tv)]) → Tt H' tv t → Q .non H'
theorem sc_Semigroup___init : FnScope ["self", "table", "own"] ["self", "table"] (defScope s_Semigroup_init) := ⟨rfl, rfl, rfl, by decide +kernel, rfl, by decide +kernel, by decide +kernel⟩
theorem h_init {f : Addr} {fd : FuncData} {tk : Tok} (F : FunD K "__init__" "Semigroup.__init__" (defArgs s_Semigroup_init) (defBody s_Semigroup_init) (defScope s_Semigroup_init) [] [] f fd) (M : Mk K C f) (T : Bl mg) (S : SemF K mg C) (gM24 : mg "MOST_semigroup" = some (.int 24 tk))
    (H_taken_table : Has P w K mg base "taken_table" ["table"] 3 spTaken) (H_is_associative : Has P w K mg base "is_associative" ["table"] 1 spAssoc) : IHas P w K mg base C ["self", "table"] 4 (spInit C) := by
  refine ⟨f, fd, M, meth_ok F sc_Semigroup___init (fun _ _ _ _ _ _ us hl => match us, hl with | [_, _], _ => rfl) (fun vs H Q E h => by obtain ⟨x, dx, v, t, rfl, _⟩ := h; rfl) (fun f cdv A outer s H vs Q E hr h => ⟨_, (pss_cons (ps_set (i := 2) sc_Semigroup___init.nd rfl (Or.inl rfl) (pe_has H_taken_table (hr.mono (by decide)) (pa_cons (pv 1) pa_nil)))
      (pss_cons (ps_if (pt_cmpR op_gt (pe_callB len7 (by rfl) T.len (by decide +kernel) (pa_cons (pv 2) pa_nil)) (pe_glob (v := .int 24) (by rfl) gM24 ⟨_, rfl⟩) (nomark _)) (pss_one ps_never) pss_nil)
      (pss_cons (ps_if (pt_not (pt_val (pe_has H_is_associative (hr.mono (by decide)) (pa_cons (pv 2) pa_nil)))) (pss_one ps_never) pss_nil)
      (pss_cons (ps_fld (pv 0) (pe_callB len7 (by rfl) T.len (by decide +kernel) (pa_cons (pv 2) pa_nil)) rfl)
      (pss_one (ps_fld (pv 0) (pv 2) rfl)))))), ?_⟩)⟩
  obtain ⟨x, dx, v, t, rfl, hx, hv, Sqt, As, q⟩ := h
  have hle := Sqt.le
  refine sq_ (sets_ (rs_call (P := fun H' u => Tt H' u t) (ea_cons (ev_v rfl) ea_nil) fun Q q => ⟨v, t, rfl, hv, Sqt, fun u H' s h => q u H' s h⟩) fun u H1 s1 ht => ?_)
  refine sq_ (chk_ (et_of (et_t (ev_gtN (ev_lenTt (ev_v rfl) ht) (ev_c (v := .int (24 : Nat))))) (decide_eq_false (by omega))) ?_)
  refine sq_ (chks_ (es_not (b := true) (es_b (rs_call (ea_cons (ev_v rfl) ea_nil) fun Q q => ⟨u, t, rfl, ht, Sqt, As, fun H' s => q _ H' s rfl⟩))) fun H2 s2 => ?_)
  have e2 := (s1.trans s2) _ _ hx
  have ht2 := ht.same s2
  refine sq_ (fld_ (ev_lenTt (ev_v rfl) ht2) (ev_v rfl) e2 S.cls S.n (by decide) ?_)
  have ht3 : Tt (upd H2 x (.ins C dx (putF "n" (V.int (t.length : Nat)) []))) u t := ht2.tf (tf_put e2 fun _ z => by cases z)
  refine fld_ (ev_v rfl) (ev_v rfl) upd_same S.cls S.t (by show 1 < 1000; decide) ?_
  refine q _ u (fun b o ne e => ?_) ?_ (ht3.tf (tf_put upd_same fun _ z => by cases z))
  · rw [upd_ne ne, upd_ne ne]
    exact (s1.trans s2) _ _ e
  · rw [upd_same]
    rfl
def spElem (C : Addr) : Sp := fun vs H Q _ => ∃ (sv : V) (t : List (List Nat)) (x : Nat), vs = [sv, .int (x : Int)] ∧ SG C H sv t ∧ x < t.length ∧ ∀ H', Same H H' → Q (.bl true) H'
theorem sc_Semigroup_is_element : FnScope ["self", "value"] ["self", "value"] (defScope s_Semigroup_is_element) := ⟨rfl, rfl, rfl, by decide +kernel, rfl, by decide +kernel, by decide +kernel⟩
theorem h_is_element {f : Addr} {fd : FuncData} (F : FunD K "is_element" "Semigroup.is_element" (defArgs s_Semigroup_is_element) (defBody s_Semigroup_is_element) (defScope s_Semigroup_is_element) [] [] f fd) (M : Meth K C "is_element" f) (T : Bl mg) (S : SemF K mg C)
    (H_is_item : Has P w K mg base "is_item" ["value", "n"] 2 spItem) : MHas P w K mg base C "is_element" ["self", "value"] 3 (spElem C) := by
  refine ⟨f, fd, M, meth_ok F sc_Semigroup_is_element (fun _ _ _ _ _ _ us hl => match us, hl with | [_, _], _ => rfl) (fun vs H Q E h => by obtain ⟨x, v, t, rfl, _⟩ := h; rfl) (fun f cdv A outer s H vs Q E hr h => ⟨_, (pss_one (ps_ret (pe_has H_is_item (hr.mono (by decide)) (pa_cons (pv 1) (pa_cons (pe_fldN S (pv 0)) pa_nil))))), ?_⟩)⟩
  obtain ⟨sv, t, x, rfl, hs, hx, q⟩ := h
  exact rets_ (rs_call (P := fun _ v => v = .bl true) (ea_cons (ev_v rfl) (ea_cons (ev_n (ev_v rfl) hs) ea_nil)) fun Q q => ⟨x, t.length, rfl, hx, q _ _ (Same.refl _) rfl⟩) fun v H' s e => e ▸ q H' s
theorem rs_meth {sp : Sp} {ta : TE} {t : TA} {σ : L2.St} {H : Hp} {m : Str} {x : V} {a dx : Addr} {fs : List (Str × V)} {vs : List V} {P : Hp → V → Prop} (ho : Ev ta σ H x) (ex : x = .ref a) (hx : H a = some (.ins C dx fs)) (hf : fs.lookup m = none) (h : Ea t σ H vs)
    (k : ∀ Q : VK, (∀ v H', Same H H' → P H' v → Q v H') → sp (x :: vs) H Q E0) : Rs (tMeth C m sp [] E0 ta t) σ H P := fun Q q => ho _ ⟨a, dx, fs, ex, hx, hf, h _ (by
  rw [List.append_nil]
  exact k Q q)⟩
def spCheck (C : Addr) : Sp := fun vs H Q _ => ∃ (sv v : V) (t : List (List Nat)) (ps : List (Nat × Nat)), vs = [sv, v] ∧ SG C H sv t ∧ PrL H v ps ∧ (∀ p ∈ ps, p.1 < t.length ∧ p.2 < t.length) ∧ ∀ H', Same H H' → Q .non H'
theorem sc_check_pairs : FnScope ["s", "pairs", "pair", "x"] ["s", "pairs"] (defScope s_check_pairs) := ⟨rfl, rfl, rfl, by decide +kernel, rfl, by decide +kernel, by decide +kernel⟩
theorem h_check_pairs (D : Dfn K mg "check_pairs" s_check_pairs) (T : Bl mg) (S : SemF K mg C) (H_is_element : MHas P w K mg base C "is_element" ["self", "value"] 3 (spElem C)) : Has P w K mg base "check_pairs" ["s", "pairs"] 4 (spCheck (C)) := by
  refine D.has sc_check_pairs (fun _ _ _ _ _ _ us hl => match us, hl with | [_, _], _ => rfl) (fun vs H Q E h => by obtain ⟨sv, v, t, ps, rfl, _⟩ := h; rfl) (fun f cdv A outer s H vs Q E hr h => ⟨_, (pss_cons (ps_if (pt_not (pt_val (pe_callB isSeq7 (by rfl) T.isinstance (by decide +kernel) (pa_cons (pv 1) (pa_cons (pe_tup (pa_cons (pe_bltn (v := .ty "list") (by rfl) T.list boot_list rfl) (pa_cons (pe_bltn (v := .ty "tuple") (by rfl) T.tuple boot_tuple rfl) pa_nil))) pa_nil))))) (pss_one ps_never) pss_nil)
      (pss_one (ps_for PassesOwn.never (by rfl) (pi7L K (pv 1)) (pg_name (i := 2) sc_check_pairs.nd rfl (Or.inl rfl)) (pss_cons (ps_if (PW.pt (pw_or (pt_not (pt_val (pe_callB isTup7 (by rfl) T.isinstance (by decide +kernel) (pa_cons (pv 2) (pa_cons (pe_bltn (v := .ty "tuple") (by rfl) T.tuple boot_tuple rfl) pa_nil))))) (pw_or1 (pt_cmpR op_ne (pe_callB len7 (by rfl) T.len (by decide +kernel) (pa_cons (pv 2) pa_nil)) pe_int (nomark _))))) (pss_one ps_never) pss_nil)
      (pss_one (ps_for PassesOwn.never (by rfl) (pi7T K (pv 2)) (pg_name (i := 3) sc_check_pairs.nd rfl (Or.inl rfl)) (pss_one (ps_if (pt_not (pt_val (pe_methS S H_is_element (hr.mono (by decide)) (pv 0) (pa_cons (pv 3) pa_nil)))) (pss_one ps_never) pss_nil)))))))), ?_⟩)
  obtain ⟨sv, v, t, ps, rfl, hs, hv, hin, q⟩ := h
  obtain ⟨p, vs, rfl, hp, pr⟩ := hv
  refine sq_ (chks_ (es_not (b := true) (es_b (rs_isseq (ev_v rfl) (.inl ⟨p, vs, rfl, hp⟩)))) fun H1 s1 => ?_)
  refine forL_ (p := p) (xs := vs) (ev_v rfl) (s1 _ _ hp) (fun i σ H' => Same H H' ∧ ∃ a b, σ = [some sv, some (.ref p), a, b]) ⟨s1, none, none, rfl⟩ (fun i σ H' h => h.1 _ _ hp) (fun i x σ H' hx h => ?_) fun σ H' h => q H' h.1
  obtain ⟨s2, a, b, rfl⟩ := h
  obtain ⟨pp, hpp, hx2⟩ := prd_at' pr hx
  have hin2 := hin pp (List.mem_of_getElem? hpp)
  have hx3 := hx2.fx (fx_of s2)
  obtain ⟨rp, rfl, hrp⟩ := id hx3
  refine sq_ (chk_ (et_or (a := false) (b := false) (et_not (b := true) (et_b fun Q q => ⟨_, rfl, _, rfl, ⟨_, _, rfl, hrp⟩, q⟩)) fun _ => et_of (et_t (ev_neN (ev_lenTn (ev_v (i := 2) rfl) hx3) (ev_c (v := .int (2 : Nat))))) rfl) ?_)
  refine forT_ (p := rp) (xs := nv [pp.1, pp.2]) (ev_v rfl) hrp (fun j σ H' => Same H H' ∧ H' rp = some (.tup (nv [pp.1, pp.2])) ∧ ∃ b, σ = [some sv, some (.ref p), some (.ref rp), b]) ⟨s2, hrp, b, rfl⟩ (fun j σ H' h => h.2.1) (fun j z σ H' hz h => ?_) fun σ H' h => ?_
  · obtain ⟨s3, e3, b, rfl⟩ := h
    have hj := (List.getElem?_eq_some_iff.mp hz).1
    rw [nv_len] at hj
    rw [nv_at hj] at hz
    cases hz
    have hlt : at' [pp.1, pp.2] j < t.length := by
      have hj2 : j < 2 := hj
      have : j = 0 ∨ j = 1 := by omega
      rcases this with rfl | rfl
      · exact hin2.1
      · exact hin2.2
    have hs3 := hs.same s3
    obtain ⟨tv, a', dx, e1, e2, e4⟩ := id hs3
    exact chks_ (es_not (b := true) (es_b (rs_meth (ev_v rfl) e1 e2 rfl (ea_cons (ev_v rfl) ea_nil) fun Q q => ⟨sv, t, at' [pp.1, pp.2] j, rfl, hs3, hlt, fun H' s => q _ H' s rfl⟩))) fun H4 s4 => ⟨s3.trans s4, s4 _ _ e3, _, rfl⟩
  · obtain ⟨s3, e3, b, rfl⟩ := h
    exact ⟨s3, _, _, rfl⟩
end
end W7
end
section
set_option Elab.async false
set_option linter.all false
set_option maxRecDepth 100000
set_option maxHeartbeats 1000000
namespace W7
open PySem PySem.Spec PyProof.Rows L2 RZ K37 K37E M7
theorem prd_snoc {α β : Type} {F : α → β → Prop} : ∀ {a : List α} {x : α} {m : List β}, Paired F (a ++ [x]) m → ∃ m' y, m = m' ++ [y] ∧ Paired F a m' ∧ F x y
  | [], x, _, .cons r .nil => ⟨[], _, rfl, .nil, r⟩
  | z :: a, x, _, .cons r t => by
    obtain ⟨m', y, rfl, h1, h2⟩ := prd_snoc (a := a) t
    exact ⟨_ :: m', y, rfl, .cons r h1, h2⟩
theorem list_snoc {α : Type} {l : List α} (h : 0 < l.length) : ∃ a x, l = a ++ [x] := ⟨l.dropLast, l.getLast (by intro z; rw [z] at h; exact Nat.lt_irrefl _ h), (List.dropLast_concat_getLast _).symm⟩
theorem drop_ {nx bk ct : L2.St → Hp → Prop} {rt : VK} {σ : L2.St} {H : Hp} {te : TE} {P : Hp → V → Prop} (h : Rs te σ H P) (k : ∀ v H', Same H H' → P H' v → nx σ H') : tDrop te ⟨nx, rt, bk, ct⟩ σ H := h _ k
theorem popg_ {nx bk ct : L2.St → Hp → Prop} {rt : VK} {σ : L2.St} {H : Hp} {to : TE} {g : TG} {l : Addr} {us : List V} {u : V} (ho : Ev to σ H (.ref l)) (h : H l = some (.lst (us ++ [u]))) (k : g u σ (upd H l (.lst us)) nx) : tAsg (tM isL rPop7 to tNil) g ⟨nx, rt, bk, ct⟩ σ H := ho _ ⟨⟨l, _, rfl, h⟩, l, us, u, rfl, rfl, h, k⟩
theorem ln_ne {H : Hp} {a l : Addr} {c : List Nat} {us : List V} {ws : List (Nat × Nat)} (h : H a = some (.lst (nv c))) (hc : 0 < c.length) (h2 : H l = some (.lst us)) (p : Paired (Pr H) us ws) : a ≠ l := by
  intro z
  subst z
  rw [h] at h2
  injection h2 with h2
  injection h2 with h2
  subst h2
  match c, hc with
  | x :: c, _ =>
    have p' : Paired (Pr H) (V.int (x : Int) :: nv c) ws := p
    cases p' with
    | cons r _ =>
      obtain ⟨b, e, _⟩ := r
      cases e
theorem same_put2 {H0 H : Hp} {l : Addr} {o : HO} (s : Same H0 H) (h : H0 l = none) : Same H0 (upd H l o) := same_put s h
def pre (t : List (List Nat)) (x y z : Nat) : List (Nat × Nat) := (List.range z).flatMap fun z => [(mul t x z, mul t y z), (mul t z x, mul t z y)]
theorem pre_succ (t : List (List Nat)) (x y z : Nat) : pre t x y (z + 1) = (pre t x y z ++ [(mul t x z, mul t y z)]) ++ [(mul t z x, mul t z y)] := by
  unfold pre
  rw [List.range_succ, List.flatMap_append]
  simp
theorem pre_len (t : List (List Nat)) (x y : Nat) : ∀ z, (pre t x y z).length = 2 * z
  | 0 => rfl
  | z + 1 => by
    rw [pre_succ, List.length_append, List.length_append, pre_len t x y z]
    simp
    omega
section
variable {P : Program} {w : World} {K : PySem.W.Frag} {mg : Str → Option Value} {base : Heap} {C : Addr}
def spGen (C : Addr) : Sp := fun vs H Q _ => ∃ (sv v : V) (t : List (List Nat)) (ps : List (Nat × Nat)), vs = [sv, v] ∧ SG C H sv t ∧ Sq t ∧ PrL H v ps ∧ (∀ p ∈ ps, p.1 < t.length ∧ p.2 < t.length) ∧ ps.length ≤ 100 ∧ ∀ u g H', Same H H' → Tn H' u g → GenBy t ps g → Q u H'
theorem sc_generated : FnScope ["s", "pairs", "classes", "waiting", "x", "y", "z"] ["s", "pairs"] (defScope s_generated) := ⟨rfl, rfl, rfl, by decide +kernel, rfl, by decide +kernel, by decide +kernel⟩
theorem h_generated (D : Dfn K mg "generated" s_generated) (T : Bl mg) (S : SemF K mg C) (H_check_pairs : Has P w K mg base "check_pairs" ["s", "pairs"] 4 (spCheck C)) (H_merged : Has P w K mg base "merged" ["classes", "x", "y"] 1 spMerged) : Has P w K mg base "generated" ["s", "pairs"] 5 (spGen (C)) := by
  refine D.has sc_generated (fun _ _ _ _ _ _ us hl => match us, hl with | [_, _], _ => rfl) (fun vs H Q E h => by obtain ⟨sv, v, t, ps, rfl, _⟩ := h; rfl) (fun f cdv A outer s H vs Q E hr h => ⟨_, (pss_cons (ps_expr (pe_has H_check_pairs (hr.mono (by decide)) (pa_cons (pv 0) (pa_cons (pv 1) pa_nil))))
      (pss_cons (ps_set (i := 2) sc_generated.nd rfl (Or.inl rfl) (pe_listRg (by rfl) (by rfl) T.list (prg_1 (by rfl) T.range (pe_fldN S (pv 0)))))
      (pss_cons (ps_set (i := 3) sc_generated.nd rfl (Or.inl rfl) (pe_callTy list7 (by rfl) T.list (by decide +kernel) (pa_cons (pv 1) pa_nil)))
      (pss_cons (ps_while PassesOwn.never (pt_cmpR op_gt (pe_callB len7 (by rfl) T.len (by decide +kernel) (pa_cons (pv 3) pa_nil)) pe_int (nomark _)) (pss_cons (ps_asg (pe_l70 PySem.F.slot_list_pop PySem.F.type_list_pop pop7 (pv 3)) (pg7 (n := 2) K (by rfl) (pgs_cons (pg_name (i := 4) sc_generated.nd rfl (Or.inl rfl)) (pgs_cons (pg_name (i := 5) sc_generated.nd rfl (Or.inl rfl)) pgs_nil))))
      (pss_one (ps_if (pt_cmpR op_ne (pe_ix ix7L (pv 2) (pv 4) (fun _ _ => rfl)) (pe_ix ix7L (pv 2) (pv 5) (fun _ _ => rfl)) (nomark _)) (pss_cons (ps_set (i := 2) sc_generated.nd rfl (Or.inl rfl) (pe_has H_merged (hr.mono (by decide)) (pa_cons (pv 2) (pa_cons (pv 4) (pa_cons (pv 5) pa_nil)))))
      (pss_one (ps_for PassesOwn.never (by rfl) (pi_range1 (by rfl) T.range (pa_cons (pe_fldN S (pv 0)) pa_nil)) (pg_name (i := 6) sc_generated.nd rfl (Or.inl rfl)) (pss_cons (ps_expr (pe_l7 PySem.F.slot_list_append PySem.F.type_list_append app7 (pv 3) (pa_cons (pe_tup (pa_cons (pe_ix ix7T (pe_ix ix7T (pe_fldT S (pv 0)) (pv 4) (fun _ _ => rfl)) (pv 6) (fun _ _ => rfl)) (pa_cons (pe_ix ix7T (pe_ix ix7T (pe_fldT S (pv 0)) (pv 5) (fun _ _ => rfl)) (pv 6) (fun _ _ => rfl)) pa_nil))) pa_nil)))
      (pss_one (ps_expr (pe_l7 PySem.F.slot_list_append PySem.F.type_list_append app7 (pv 3) (pa_cons (pe_tup (pa_cons (pe_ix ix7T (pe_ix ix7T (pe_fldT S (pv 0)) (pv 6) (fun _ _ => rfl)) (pv 4) (fun _ _ => rfl)) (pa_cons (pe_ix ix7T (pe_ix ix7T (pe_fldT S (pv 0)) (pv 6) (fun _ _ => rfl)) (pv 5) (fun _ _ => rfl)) pa_nil))) pa_nil)))))))) pss_nil))))
      (pss_one (ps_ret (pe_callTy tup7 (by rfl) T.tuple (by decide +kernel) (pa_cons (pv 2) pa_nil)))))))), ?_⟩)
  obtain ⟨sv, v, t, ps, rfl, hs, Sqt, hv, hin, hps, q⟩ := h
  have hle := Sqt.le
  have hpos := Sqt.pos
  refine sq_ (drop_ (rs_call (P := fun _ _ => True) (ea_cons (ev_v rfl) (ea_cons (ev_v rfl) ea_nil)) fun Q q => ⟨sv, v, t, ps, rfl, hs, hv, hin, fun H' s => q _ H' s trivial⟩) fun _ H1 s1 _ => ?_)
  refine sq_ (sets_ (rs_listRg (n := t.length) (ev_n (ev_v rfl) (hs.same s1)) (by omega)) fun cv H2 s2 hcv => ?_)
  obtain ⟨p, vs, rfl, hp, pr⟩ := hv
  have s12 := s1.trans s2
  refine sq_ (sets_ (P := fun H' u => ∃ l, u = .ref l ∧ H2 l = none ∧ H' l = some (.lst vs)) (fun Q q => ev_v rfl _ ⟨p, vs, rfl, .inl (s12 _ _ hp), fun l hl => q _ _ (same_new hl) ⟨l, rfl, hl, upd_same⟩⟩) fun u H3 s3 hu => ?_)
  obtain ⟨l, rfl, hl2, hl3⟩ := hu
  have hl0 : H l = none := s12.free hl2
  have s13 := s12.trans s3
  refine sq_ (while_ (fun m σ H' => Same H H' ∧ ∃ ca c us ws a b d, σ = [some sv, some (.ref p), some (.ref ca), some (.ref l), a, b, d] ∧ H' ca = some (.lst (nv c)) ∧ H' l = some (.lst us) ∧ Paired (Pr H') us ws ∧ GenInv t ps c ws ∧ m = (heads c).length * (2 * t.length + 1) + ws.length ∧ m ≤ 2000)
    ((heads (List.range t.length)).length * (2 * t.length + 1) + ps.length) ?_ fun m σ H' h => ?_)
  · obtain ⟨ca, rfl, hca⟩ := hcv
    refine ⟨s13, ca, _, vs, ps, none, none, none, rfl, s3 _ _ hca, hl3, prs_fx pr (fx_of s13), gen_start hin, rfl, ?_⟩
    have h1 := heads_le (List.range t.length)
    rw [List.length_range] at h1
    have h2 : (heads (List.range t.length)).length * (2 * t.length + 1) ≤ 24 * 49 := Nat.mul_le_mul (by omega) (by omega)
    omega
  · obtain ⟨s4, ca, c, us, ws, a, b, d, rfl, hca, hl4, pw, GI, em, hm⟩ := h
    have lw := prd_len pw
    have hcl := GI.canon.len
    refine ⟨_, et_t (ev_gtN (ev_lenL (ev_v rfl) hl4) (ev_c (v := .int (0 : Nat)))), fun hb => ?_, fun hb => ?_⟩
    · obtain ⟨us', u, rfl⟩ := list_snoc (of_decide_eq_true hb)
      obtain ⟨ws', ⟨x, y⟩, rfl, pw', hu⟩ := prd_snoc pw
      have hxy := GI.inn (x, y) (List.mem_append_right _ (List.mem_singleton.mpr rfl))
      have hxl : x < t.length := hxy.1
      have hyl : y < t.length := hxy.2
      have nel : ca ≠ l := ln_ne hca (by omega) hl4 pw
      have fx5 := fx_put (o := HO.lst us') hl4
      have s5 : Same H (upd H' l (.lst us')) := same_put s4 hl0
      have hca5 : upd H' l (.lst us') ca = some (.lst (nv c)) := by rw [upd_ne nel]; exact hca
      have lw' : us'.length = ws'.length := prd_len pw'
      rw [List.length_append, List.length_singleton] at em
      refine sq_ (popg_ (l := l) (us := us') (u := u) (ev_v rfl) hl4 (tg2p (hu.fx fx5) ?_))
      have el5 : upd H' l (.lst us') l = some (.lst us') := upd_same
      have pw5 := prs_fx pw' fx5
      generalize upd H' l (.lst us') = H5 at s5 hca5 pw5 el5
      have hLn : Ln H5 (.ref ca) c := ⟨ca, rfl, hca5⟩
      refine ifn_ (et_t (ev_neN (ev_ixL (ev_v rfl) hLn (ev_v rfl) (by omega)) (ev_ixL (ev_v rfl) hLn (ev_v rfl) (by omega)))) (fun hb => ?_) fun hb => ?_
      · have ne : at' c x ≠ at' c y := by simpa using hb
        refine sq_ (sets_ (rs_call (P := fun H' u => Ln H' u (merge c (x, y))) (ea_cons (ev_v rfl) (ea_cons (ev_v rfl) (ea_cons (ev_v rfl) ea_nil))) fun Q q => ⟨.ref ca, x, y, c, rfl, hLn, by omega, by omega, by omega, fun u H' s h => q u H' s h⟩) fun mv H6 s6 hmv => ?_)
        obtain ⟨ma, rfl, hma⟩ := hmv
        have hlm := merge_len c (x, y)
        have hlt := heads_merge GI.canon hxl hyl ne
        have hmul : (heads (merge c (x, y))).length * (2 * t.length + 1) + (2 * t.length + 1) ≤ (heads c).length * (2 * t.length + 1) := by
          rw [← Nat.succ_mul]
          exact Nat.mul_le_mul_right _ hlt
        refine forR_ (n := t.length) (ev_n (ev_v rfl) (hs.same (s5.trans s6))) (sl1000 (by omega)) (fun z σ H' => Same H H' ∧ ∃ us2 d, σ = [some sv, some (.ref p), some (.ref ma), some (.ref l), some (.int (x : Nat)), some (.int (y : Nat)), d] ∧ H' ma = some (.lst (nv (merge c (x, y)))) ∧ H' l = some (.lst us2) ∧ Paired (Pr H') us2 (ws' ++ pre t x y z)) ⟨s5.trans s6, us', d, rfl, hma, s6 _ _ el5, by
          show Paired (Pr H6) us' (ws' ++ [])
          rw [List.append_nil]
          exact prs_fx pw5 (fx_of s6)⟩ (fun z σ H' hz h => ?_) fun σ H' h => ?_
        · obtain ⟨s7, us2, d, rfl, hma7, hl7, p7⟩ := h
          have l7 := prd_len p7
          rw [List.length_append, pre_len] at l7
          have small : us2.length + 1 < sizeLine := by
            have : 1000000 < sizeLine := by decide
            omega
          have hs7 := hs.same s7
          refine sq_ (app_ (l := l) (xs := us2) (P := fun H' v => Pr H' v (mul t x z, mul t y z)) (ev_v rfl) hl7 (rs_pair (ev_tab Sqt (ev_v rfl) hs7 (ev_v rfl) (ev_v rfl) hxl hz) (ev_tab Sqt (ev_v rfl) hs7 (ev_v rfl) (ev_v rfl) hyl hz)) (by omega) fun v8 H8 s8 p8 => ?_)
          have e8 := s8 _ _ hl7
          have fx8 := fx_put (o := HO.lst (us2 ++ [v8])) e8
          have ne8 : ma ≠ l := ln_ne hma7 (by omega) hl7 p7
          have s9 : Same H (upd H8 l (.lst (us2 ++ [v8]))) := same_put (s7.trans s8) hl0
          have hma9 : upd H8 l (.lst (us2 ++ [v8])) ma = some (.lst (nv (merge c (x, y)))) := by rw [upd_ne ne8]; exact s8 _ _ hma7
          have el9 : upd H8 l (.lst (us2 ++ [v8])) l = some (.lst (us2 ++ [v8])) := upd_same
          have p9 := prd_app (prs_fx p7 ((fx_of s8).trans fx8)) (prd_one (p8.fx fx8))
          generalize upd H8 l (.lst (us2 ++ [v8])) = H9 at s9 hma9 p9 el9
          have hs9 := hs.same s9
          refine app_ (l := l) (xs := us2 ++ [v8]) (P := fun H' v => Pr H' v (mul t z x, mul t z y)) (ev_v rfl) el9 (rs_pair (ev_tab Sqt (ev_v rfl) hs9 (ev_v rfl) (ev_v rfl) hz hxl) (ev_tab Sqt (ev_v rfl) hs9 (ev_v rfl) (ev_v rfl) hz hyl)) (by rw [List.length_append, List.length_singleton]; omega) fun v10 H10 s10 p10 => ?_
          have e10 := s10 _ _ el9
          have fx10 := fx_put (o := HO.lst ((us2 ++ [v8]) ++ [v10])) e10
          refine ⟨same_put (s9.trans s10) hl0, _, _, rfl, by rw [upd_ne ne8]; exact s10 _ _ hma9, upd_same, ?_⟩
          rw [pre_succ, ← List.append_assoc, ← List.append_assoc]
          exact prd_app (prs_fx p9 ((fx_of s10).trans fx10)) (prd_one (p10.fx fx10))
        · obtain ⟨s7, us2, d, rfl, hma7, hl7, p7⟩ := h
          have GI2 := gen_merge Sqt GI
          have etr : trans t x y = pre t x y t.length := rfl
          rw [etr] at GI2
          have lt2 : (ws' ++ pre t x y t.length).length = ws'.length + 2 * t.length := by rw [List.length_append, pre_len]
          exact ⟨(heads (merge c (x, y))).length * (2 * t.length + 1) + (ws' ++ pre t x y t.length).length, by omega, s7, ma, _, us2, _, _, _, _, rfl, hma7, hl7, p7, GI2, rfl, by omega⟩
      · have eq : at' c x = at' c y := by simpa using hb
        exact ⟨(heads c).length * (2 * t.length + 1) + ws'.length, by omega, s5, ca, c, us', ws', _, _, _, rfl, hca5, el5, pw5, gen_skip GI eq, rfl, by omega⟩
    · have h0 : us = [] := by
        have := of_decide_eq_false hb
        exact List.eq_nil_of_length_eq_zero (by omega)
      subst h0
      cases pw
      exact rets_ (rs_tupN ((ev_v rfl).rs ⟨ca, rfl, hca⟩)) fun u H5 s5 h5 => q u c H5 (s4.trans s5) h5 (gen_end GI)
end
end W7
end
section
set_option Elab.async false
set_option linter.all false
set_option maxRecDepth 100000
set_option maxHeartbeats 1000000
namespace W7
open PySem PySem.Spec PyProof.Rows L2 RZ K37 K37E M7
theorem Rows.same {H H' : Hp} {v : V} {t : List (List Nat)} (h : Rows H v t) (s : Same H H') : Rows H' v t := h.elim (fun h => .inl (h.same s)) fun h => .inr (h.same s)
theorem rs_make {C : Addr} {te : TE} {σ : L2.St} {H : Hp} {t : List (List Nat)} (h : Rs te σ H fun H' v => Rows H' v t) (Sqt : Sq t) (As : Assoc t) : Rs (tMake C (spInit C) [] E0 (tCons te tNil)) σ H fun H' v => SG C H' v t := fun Q q => h _ fun v H1 s1 hv x dx hx hdx ne => by
  have s2 : Same H1 (upd (upd H1 dx (.own x)) x (.ins C dx [])) := (same_new hdx).trans (same_new (by rw [upd_ne (fun z => ne z.symm)]; exact hx))
  refine ⟨x, dx, v, t, rfl, upd_same, hv.same s2, Sqt, As, fun H' tv keep hx' ht => ⟨rfl, q _ _ (fun b o e => ?_) ⟨tv, x, dx, rfl, hx', ht⟩⟩⟩
  have e1 := s1 _ _ e
  exact keep b o (ne_of_none e1 hx) (s2 _ _ e1)
theorem ea_cast {t : TA} {σ : L2.St} {H : Hp} {a b : List V} (h : Ea t σ H a) (e : a = b) : Ea t σ H b := e ▸ h
section
variable {P : Program} {w : World} {K : PySem.W.Frag} {mg : Str → Option Value} {base : Heap} {C : Addr}
def spQuot (C : Addr) : Sp := fun vs H Q _ => ∃ (sv v : V) (t : List (List Nat)) (c : List Nat), vs = [sv, v] ∧ SG C H sv t ∧ Sq t ∧ Assoc t ∧ Tn H v c ∧ IsCong t c ∧ ∀ u H', Same H H' → SG C H' u (quot t c) → Q u H'
theorem sc_quotient : FnScope ["s", "classes", "numbers", "heads", "x", "y"] ["s", "classes"] (defScope s_quotient) := ⟨rfl, rfl, rfl, by decide +kernel, rfl, by decide +kernel, by decide +kernel⟩
theorem h_quotient (D : Dfn K mg "quotient" s_quotient) (T : Bl mg) (S : SemF K mg C) (H_init : IHas P w K mg base C ["self", "table"] 4 (spInit C)) (H_is_congruence : Has P w K mg base "is_congruence" ["s", "value"] 3 (spCong (C := C))) (H_class_numbers : Has P w K mg base "class_numbers" ["classes"] 1 spNumbers) : Has P w K mg base "quotient" ["s", "classes"] 6 (spQuot (C)) := by
  refine D.has sc_quotient (fun _ _ _ _ _ _ us hl => match us, hl with | [_, _], _ => rfl) (fun vs H Q E h => by obtain ⟨sv, v, t, c, rfl, _⟩ := h; rfl) (fun f cdv A outer s H vs Q E hr h => ⟨_, (pss_cons (ps_if (pt_not (pt_val (pe_has H_is_congruence (hr.mono (by decide)) (pa_cons (pv 0) (pa_cons (pv 1) pa_nil))))) (pss_one ps_never) pss_nil)
      (pss_cons (ps_set (i := 2) sc_quotient.nd rfl (Or.inr rfl) (pe_has H_class_numbers (hr.mono (by decide)) (pa_cons (pv 1) pa_nil)))
      (pss_cons (ps_set (i := 3) sc_quotient.nd rfl (Or.inr rfl) (pe_lc (own := [("x", 4)]) (g := gName 4) (by rfl) sc_quotient.nd (pi_range1 (by rfl) T.range (pa_cons (pe_fldN S (pv 0)) pa_nil)) (blkOk_by (by kernel_rfl)) (fun _ _ _ _ _ => pg_name (i := 4) sc_quotient.nd rfl (Or.inl rfl)) (fun _ _ _ _ _ => (pts_one (pt_cmpR op_eq (pe_ix ix7T (pv 1) (pv 4) (fun _ _ => rfl)) (pv 4) (nomark _)))) (fun _ _ _ _ _ => (pv 4))))
      (pss_one (ps_ret (pe_mk S H_init (hr.mono (by decide)) (pa_cons (pe_lc (own := [("x", 4)]) (g := gName 4) (by rfl) sc_quotient.nd (pi7L K (pv 3)) (blkOk_by (by kernel_rfl)) (fun _ _ _ _ _ => pg_name (i := 4) sc_quotient.nd rfl (Or.inr rfl)) (fun _ _ _ _ _ => pts_nil) (fun _ _ _ _ _ => (pe_lc (own := [("y", 5)]) (g := gName 5) (by rfl) sc_quotient.nd (pi7L K (pv 3)) (blkOk_by (by kernel_rfl)) (fun _ _ _ _ _ => pg_name (i := 5) sc_quotient.nd rfl (Or.inl rfl)) (fun _ _ _ _ _ => pts_nil) (fun _ _ _ _ _ => (pe_ix ix7T (pv 2) (pe_ix ix7T (pe_ix ix7T (pe_fldT S (pv 0)) (pv 4) (fun _ _ => rfl)) (pv 5) (fun _ _ => rfl)) (fun _ _ => rfl)))))) pa_nil))))))), ?_⟩)
  obtain ⟨sv, v, t, c, rfl, hs, Sqt, As, hv, Ct, q⟩ := h
  have hl := Ct.canon.len
  have hle := Sqt.le
  refine sq_ (chks_ (es_not (b := true) (es_b (rs_call (ea_cons (ev_v rfl) (ea_cons (ev_v rfl) ea_nil)) fun Q q => ⟨sv, v, t, c, rfl, hs, Sqt, hv, Ct, fun H' s => q _ H' s rfl⟩))) fun H1 s1 => ?_)
  refine sq_ (sets_ (rs_call (P := fun H' u => Tn H' u (numbers c)) (ea_cons (ev_v rfl) ea_nil) fun Q q => ⟨v, t.length, c, rfl, hv.same s1, Ct.canon, by omega, fun u H' s h => q u H' s h⟩) fun nu H2 s2 hnu => ?_)
  have hn2 : Ev (tFn C (tVar 0)) _ H2 (.int (c.length : Nat)) := hl.symm ▸ ev_n (σ := [some sv, some v, some nu, none, none, none]) (ev_v (i := 0) rfl) (hs.same (s1.trans s2))
  refine sq_ (sets_ (rs_heads (σ := [some sv, some v, some nu, none, none, none]) hn2 (hv.same (s1.trans s2)) (by omega) (fun _ => rfl) fun _ => rfl) fun hd H3 s3 hhd => ?_)
  have hhl := heads_le c
  have len_nu : (numbers c).length = c.length := by unfold numbers; rw [List.length_map]
  have hin : ∀ {j}, j < (heads c).length → at' (heads c) j < t.length := fun h => by
    have := (mem_heads.mp (at_mem h)).1
    omega
  have s13 := (s1.trans s2).trans s3
  have eq : (List.range (heads c).length).map (fun j => (heads c).map fun y => at' (numbers c) (mul t (at' (heads c) j) y)) = quot t c := by
    unfold quot
    apply List.ext_getElem (by simp)
    intro j h1 h2
    rw [List.getElem_map, List.getElem_range, List.getElem_map, at_eq]
  refine rets_ (rs_make (t := quot t c) (Rs.imp (lcLL_list (fun j => (heads c).map fun y => at' (numbers c) (mul t (at' (heads c) j) y)) (ev_v rfl) hhd (by omega) fun j H4 hj s4 => ?_) fun H' v s h => .inr (eq ▸ h)) (quot_sq Sqt Ct) (quot_assoc Sqt Ct As)) fun u H4 s4 h4 => q u H4 (s13.trans s4) h4
  refine lcF_list (fun y => at' (numbers c) (mul t (at' (heads c) j) y)) (ev_v rfl) (hhd.same s4) (by omega) fun k H5 hk s5 => ?_
  have s45 := s4.trans s5
  exact ev_ixT (ev_v rfl) (hnu.same (s3.trans s45)) (ev_tab Sqt (ev_v rfl) (hs.same (s13.trans s45)) (ev_v rfl) (ev_v rfl) (hin hj) (hin hk)) (by rw [len_nu, hl]; exact Sqt.mul_lt (hin hj) (hin hk))
end
end W7
end
section
set_option linter.all false
set_option maxRecDepth 100000
/-! the search for all congruences -/
namespace M7
structure CI (t : List (List Nat)) (single layer : List (List Nat)) (k i j : Nat) (fs fresh : List (List Nat)) : Prop where
  base : List.range t.length ∈ fs
  congs : ∀ c ∈ fs, IsCong t c
  nd : fs.Nodup
  lay : ∀ c ∈ layer, c ∈ fs
  fr : ∀ c ∈ fresh, c ∈ fs
  done : ∀ c ∈ fs, c ∈ fresh ∨ c ∈ layer.drop i ∨ ∀ s ∈ single, joinC c s ∈ fs
  part : ∀ one, layer[i]? = some one → ∀ s ∈ single.take j, joinC one s ∈ fs
  len : fs.length = k + fresh.length
structure CW (t : List (List Nat)) (single layer fs : List (List Nat)) : Prop where
  base : List.range t.length ∈ fs
  congs : ∀ c ∈ fs, IsCong t c
  nd : fs.Nodup
  lay : ∀ c ∈ layer, c ∈ fs
  done : ∀ c ∈ fs, c ∈ layer ∨ ∀ s ∈ single, joinC c s ∈ fs
theorem cw_start {t : List (List Nat)} {single : List (List Nat)} (S : Sq t) : CW t single [List.range t.length] [List.range t.length] :=
  ⟨List.mem_singleton.mpr rfl, fun c hc => by rw [List.mem_singleton.mp hc]; exact cong_range S, List.nodup_cons.mpr ⟨by simp, List.nodup_nil⟩, fun c hc => hc, fun c hc => .inl hc⟩
theorem ci_start {t single layer fs : List (List Nat)} (W : CW t single layer fs) : CI t single layer fs.length 0 0 fs [] :=
  ⟨W.base, W.congs, W.nd, W.lay, fun c hc => (by cases hc), fun c hc => (W.done c hc).elim (fun h => .inr (.inl h)) fun h => .inr (.inr h), fun one _ s hs => (by simp at hs), rfl⟩
theorem take_mem {α : Type} {l : List α} {j : Nat} {x s : α} (h : l[j]? = some x) (hs : s ∈ l.take (j + 1)) : s ∈ l.take j ∨ s = x := by
  rw [List.take_succ, h] at hs
  rcases List.mem_append.mp hs with q | q
  · exact .inl q
  · exact .inr (List.mem_singleton.mp q)
theorem ci_hit {t single layer fs fresh : List (List Nat)} {k i j : Nat} {one two : List Nat} (I : CI t single layer k i j fs fresh) (h1 : layer[i]? = some one) (h2 : single[j]? = some two) (h : joinC one two ∈ fs) : CI t single layer k i (j + 1) fs fresh :=
  ⟨I.base, I.congs, I.nd, I.lay, I.fr, I.done, fun o ho s hs => by
    rcases take_mem h2 hs with q | rfl
    · exact I.part o ho s q
    · rw [h1] at ho
      cases ho
      exact h, I.len⟩
theorem ci_new {t single layer fs fresh : List (List Nat)} {k i j : Nat} {one two : List Nat} (I : CI t single layer k i j fs fresh) (h1 : layer[i]? = some one) (h2 : single[j]? = some two) (hc : IsCong t (joinC one two)) (h : joinC one two ∉ fs) : CI t single layer k i (j + 1) (fs ++ [joinC one two]) (fresh ++ [joinC one two]) := by
  have up : ∀ {c}, c ∈ fs → c ∈ fs ++ [joinC one two] := fun h => List.mem_append_left _ h
  refine ⟨up I.base, fun c hc' => ?_, ?_, fun c hc => up (I.lay c hc), fun c hc' => ?_, fun c hc' => ?_, fun o ho s hs => ?_, ?_⟩
  · rcases List.mem_append.mp hc' with q | q
    · exact I.congs c q
    · rw [List.mem_singleton.mp q]; exact hc
  · refine List.nodup_append.mpr ⟨I.nd, List.nodup_cons.mpr ⟨by simp, List.nodup_nil⟩, fun a ha b hb e => ?_⟩
    rw [List.mem_singleton.mp hb] at e
    exact h (e ▸ ha)
  · rcases List.mem_append.mp hc' with q | q
    · exact up (I.fr c q)
    · exact List.mem_append_right _ q
  · rcases List.mem_append.mp hc' with q | q
    · rcases I.done c q with q | q | q
      · exact .inl (List.mem_append_left _ q)
      · exact .inr (.inl q)
      · exact .inr (.inr fun s hs => up (q s hs))
    · exact .inl (List.mem_append_right _ q)
  · rcases take_mem h2 hs with q | rfl
    · exact up (I.part o ho s q)
    · rw [h1] at ho
      cases ho
      exact List.mem_append_right _ (List.mem_singleton.mpr rfl)
  · rw [List.length_append, List.length_append, I.len]
    simp
    omega
theorem drop_get {α : Type} {l : List α} {i : Nat} {x : α} (h : l[i]? = some x) : l.drop i = x :: l.drop (i + 1) := by
  obtain ⟨hi, e⟩ := List.getElem?_eq_some_iff.mp h
  rw [List.drop_eq_getElem_cons hi, e]
theorem ci_next {t single layer fs fresh : List (List Nat)} {k i : Nat} {one : List Nat} (I : CI t single layer k i single.length fs fresh) (h1 : layer[i]? = some one) : CI t single layer k (i + 1) 0 fs fresh := by
  refine ⟨I.base, I.congs, I.nd, I.lay, I.fr, fun c hc => ?_, fun o ho s hs => (by simp at hs), I.len⟩
  rcases I.done c hc with q | q | q
  · exact .inl q
  · rw [drop_get h1] at q
    rcases List.mem_cons.mp q with rfl | q
    · exact .inr (.inr fun s hs => I.part _ h1 s (by rw [List.take_length]; exact hs))
    · exact .inr (.inl q)
  · exact .inr (.inr q)
theorem ci_end {t single layer fs fresh : List (List Nat)} {k : Nat} (I : CI t single layer k layer.length 0 fs fresh) : CW t single fresh fs :=
  ⟨I.base, I.congs, I.nd, I.fr, fun c hc => (I.done c hc).elim .inl fun h => h.elim (fun h => by rw [List.drop_length] at h; cases h) .inr⟩
theorem cw_le {t single layer fs : List (List Nat)} (W : CW t single layer fs) : fs.length ≤ (congs t).length := List.Nodup.length_le_of_subset W.nd fun c hc => mem_congs.mpr (W.congs c hc)
theorem ci_le {t single layer fs fresh : List (List Nat)} {k i j : Nat} (I : CI t single layer k i j fs fresh) : fs.length ≤ (congs t).length := List.Nodup.length_le_of_subset I.nd fun c hc => mem_congs.mpr (I.congs c hc)
theorem cw_done {t single fs : List (List Nat)} (S : Sq t) (W : CW t single [] fs) (hg : ∀ s ∈ single, ∃ p : Nat × Nat, p.1 < t.length ∧ p.2 < t.length ∧ GenBy t [p] s) (he : ∀ x y, y < x → x < t.length → ∃ s ∈ single, GenBy t [(y, x)] s) : fs.Perm (congs t) := by
  have A : AllDone t fs single := ⟨W.base, W.congs, hg, he, fun c hc s hs => (W.done c hc).elim (fun h => by cases h) fun h => h s hs⟩
  exact (List.perm_ext_iff_of_nodup W.nd (congs_nodup t)).mpr fun c => ⟨fun h => mem_congs.mpr (W.congs c h), fun h => all_found S A (mem_congs.mp h)⟩
def leB (c : List Nat) : Bool := (List.range c.length).all fun x => decide (at' c x ≤ x)
theorem few4 : ∀ n, n < 5 → ((rowsOf n n).filter leB).length ≤ 24 := by decide +kernel
theorem filter_mono {α : Type} {p q : α → Bool} : ∀ {l : List α}, (∀ z ∈ l, p z = true → q z = true) → (l.filter p).length ≤ (l.filter q).length
  | [], _ => Nat.le_refl _
  | y :: l, h => by
    have h1 := filter_mono (l := l) fun z hz => h z (List.mem_cons_of_mem _ hz)
    by_cases hy : p y = true
    · rw [List.filter_cons_of_pos hy, List.filter_cons_of_pos (h y List.mem_cons_self hy)]
      exact Nat.succ_le_succ h1
    · rw [List.filter_cons_of_neg hy]
      by_cases hz : q y = true
      · rw [List.filter_cons_of_pos hz]
        exact Nat.le_succ_of_le h1
      · rw [List.filter_cons_of_neg hz]
        exact h1
theorem congs_few {t : List (List Nat)} (h : t.length ≤ 4) : (congs t).length ≤ 24 := by
  refine Nat.le_trans (filter_mono fun c hc hb => ?_) (few4 t.length (by omega))
  have hl := (mem_rowsOf.mp hc).1
  have C := ((congB_iff hl).mp hb).canon
  unfold leB
  rw [List.all_eq_true]
  intro x hx
  rw [List.mem_range, hl] at hx
  exact decide_eq_true (C.le x hx)
end M7
end
section
set_option Elab.async false
set_option linter.all false
set_option maxRecDepth 100000
set_option maxHeartbeats 1000000
/-! dicts whose keys are tuples of numbers; sorting -/
namespace W7
open PySem PySem.Spec PyProof.Rows L2 RZ K37 K37E M7
theorem take_snoc' {α : Type} {l : List α} {i : Nat} {x : α} (h : l[i]? = some x) : l.take (i + 1) = l.take i ++ [x] := by
  rw [List.take_succ, h]
  rfl
def keyC (c : List Nat) : List Key := c.map fun (n : Nat) => (Sum.inl (n : Int) : Key)
theorem keyC_map (c : List Nat) : (keyC c).map kV = nv c := by
  unfold keyC nv
  rw [List.map_map]
  rfl
theorem keyC_inj : ∀ {a b : List Nat}, keyC a = keyC b → a = b := fun {a b} h => nv_inj (by rw [← keyC_map, ← keyC_map, h])
def kvc (c : List Nat) : List Key × V := (keyC c, .bl true)
theorem valV_kvc (d : List Nat) : ∀ fs : List (List Nat), valV (fs.map kvc) (keyC d) = if d ∈ fs then some (.bl true) else none
  | [] => rfl
  | c :: fs => by
    rw [List.map_cons]
    by_cases h : c = d
    · subst h
      rw [if_pos List.mem_cons_self]
      exact valV_pos (p := kvc c) rfl
    · rw [valV_neg (p := kvc c) (fun e => h (keyC_inj e)), valV_kvc d fs]
      by_cases k : d ∈ fs
      · rw [if_pos k, if_pos (List.mem_cons_of_mem _ k)]
      · rw [if_neg k, if_neg]
        intro q
        rcases List.mem_cons.mp q with e | q
        · exact h e.symm
        · exact k q
theorem fx_dT {H : Hp} {d : Addr} {kvs : List (List Key × V)} {o : HO} (h : H d = some (.dT kvs)) : Fx H (upd H d o) := fx_put h
section
variable {σ : L2.St} {H : Hp} {te tk tv el : TE} {x : V} {K : PySem.W.Frag} {i : Nat} {nx bk ct : L2.St → Hp → Prop} {rt : VK}
theorem rs_disp1 {c : List Nat} (hk : ∀ H1, Same H H1 → Rs tk σ H1 fun H' v => Tn H' v c) (hv : ∀ H1, Ev tv σ H1 (.bl true)) : Rs (tDisp1 tk tv) σ H fun H' v => ∃ p, v = .ref p ∧ H p = none ∧ H' p = some (.dT [kvc c]) := fun Q q p hp => hk _ (same_new hp) _ fun u H1 s1 h1 => hv _ _ (by
  obtain ⟨b, rfl, hb⟩ := h1
  refine ⟨b, keyC c, rfl, by rw [keyC_map]; exact hb, s1 _ _ upd_same, q _ _ (same_put ((same_new hp).trans s1) hp) ⟨p, rfl, hp, upd_same⟩⟩)
theorem rs_lst1 {P : Hp → V → Prop} (h : Rs te σ H P) (st : ∀ H1 H2 v, Fx H1 H2 → P H1 v → P H2 v) : Rs (tLst (tCons te tNil)) σ H fun H' v => ∃ p u, v = .ref p ∧ H p = none ∧ H' p = some (.lst [u]) ∧ P H' u := fun Q q => h _ fun u H1 s1 h1 => ⟨by show 1 ≤ sizeLine; decide, fun p hp => q _ _ (s1.trans (same_new hp)) ⟨p, u, rfl, s1.free hp, upd_same, st _ _ _ (fx_new hp) h1⟩⟩
theorem rs_call2 {sp : Sp} {ta tb : TE} {v : V} {P P' : Hp → V → Prop} (ha : Ev ta σ H v) (hb : Rs tb σ H P) (k : ∀ u H', Same H H' → P H' u → ∀ Q : VK, (∀ v H'', Same H' H'' → P' H'' v → Q v H'') → sp [v, u] H' Q E0) : Rs (tCall sp [] E0 (tCons ta (tCons tb tNil))) σ H P' := fun Q q => ha _ (hb _ fun u H1 s1 h1 => k u H1 s1 h1 _ fun v H2 s2 h2 => q v H2 (s1.trans s2) h2)
theorem forLs_ {g : TG} {tb : TS} {P : Hp → V → Prop} (hn : Rs te σ H P) (k : ∀ v H1, Same H H1 → P H1 v → tFor (iList K (tC v)) g tb ⟨nx, rt, bk, ct⟩ σ H1) : tFor (iList K te) g tb ⟨nx, rt, bk, ct⟩ σ H := hn _ k
theorem rs_list7 {p : Addr} {xs : List V} (h : Ev te σ H (.ref p)) (hp : H p = some (.lst xs)) : Rs (tCB rList7 (tCons te tNil)) σ H fun H' v => ∃ l, v = .ref l ∧ H l = none ∧ H' l = some (.lst xs) := fun Q q => h _ ⟨p, xs, rfl, .inl hp, fun l hl => q _ _ (same_new hl) ⟨l, rfl, hl, upd_same⟩⟩
theorem dput_ {td ty tw : TE} {d : Addr} {c : List Nat} {fs : List (List Nat)} {y : V} (hw : Ev tw σ H (.bl true)) (hd : Ev td σ H (.ref d)) (hy : Ev ty σ H y) (h : H d = some (.dT (fs.map kvc))) (hc : Tn H y c) (nin : c ∉ fs) (small : fs.length < sizeLine)
    (k : nx σ (upd H d (.dT ((fs ++ [c]).map kvc)))) : sDPut td ty tw ⟨nx, rt, bk, ct⟩ σ H := hw _ (hd _ (hy _ (by
  obtain ⟨b, rfl, hb⟩ := hc
  refine ⟨d, _, rfl, DPut.t (k := keyC c) h (by rw [keyC_map]; exact hb) (by rw [List.length_map]; exact small), ?_⟩
  rw [putK_new _ (by rw [valV_kvc, if_neg nin])]
  have e : fs.map kvc ++ [(keyC c, V.bl true)] = (fs ++ [c]).map kvc := by rw [List.map_append]; rfl
  rw [e]
  exact k)))
theorem et_notinD {td ty : TE} {d : Addr} {c : List Nat} {fs : List (List Nat)} {y : V} (hy : Ev ty σ H y) (hd : Ev td σ H (.ref d)) (h : H d = some (.dT (fs.map kvc))) (hc : Tn H y c) : Et (tB (tDNotIn ty td)) σ H (decide (c ∉ fs)) := fun Q q => hy _ (hd _ (by
  obtain ⟨b, rfl, hb⟩ := hc
  refine ⟨d, _, rfl, DGet.t (k := keyC c) h (by rw [keyC_map]; exact hb), _, rfl, ?_⟩
  rw [valV_kvc]
  by_cases k : c ∈ fs
  · rw [if_pos k]
    rw [decide_eq_false (by simpa using k)] at q
    exact q
  · rw [if_neg k]
    rw [decide_eq_true k] at q
    exact q))
theorem ev_lendT {d : Addr} {kvs : List (List Key × V)} (h : Ev te σ H (.ref d)) (hd : H d = some (.dT kvs)) : Ev (tCB rLenT (tCons te tNil)) σ H (.int (kvs.length : Nat)) := fun Q q => h _ ⟨d, kvs, rfl, hd, q⟩
theorem et_nt7 {ta tb : TE} {r : List Nat} {t : List (List Nat)} {y : V} (ha : Ev ta σ H x) (hb : Ev tb σ H y) (h1 : Tn H x r) (h2 : Lt H y t) : Et (tTest (tOp rNt7 ta tb)) σ H (decide (r ∉ t)) := et_t (ev_op ha hb fun Q q => ⟨r, t, h1, h2, q⟩)
/-- the keys of a dict, as a list -/
theorem rs_keys {fs : List (List Nat)} {d : Addr} (hd : ∀ H', Ev te σ H' (.ref d)) (h : H d = some (.dT (fs.map kvc))) (hi : ∀ v, (σ.set i (some v))[i]? = some (some v)) (h1 : fs.length ≤ 1000) :
    Rs (tLockE (tLc (iKeys te) (gName i) tYes (tVar i) [i])) σ H fun H' v => Lt H' v fs := fun Q q => by
  refine ⟨d, _, h, trivial, fun od => hd _ _ ⟨d, od, rfl, .inr ⟨_, upd_same, fun D hD => ?_⟩⟩⟩
  have ne : D ≠ d := by
    intro z
    rw [z, upd_same] at hD
    cases hD
  have hD0 : H D = none := by rw [upd_ne ne] at hD; exact hD
  refine ⟨fun j m H' => m = fs.length - j ∧ j ≤ fs.length ∧ (Same (upd H d (.frz od (.dT (fs.map kvc)))) H' ∧ ∃ vs, H' D = some (.lst vs) ∧ Paired (Tn H') vs (fs.take j)), ⟨fs.length, by simp, Nat.zero_le _, same_new hD, [], upd_same, .nil⟩, ?_⟩
  rintro j m H' ⟨rfl, hj, s, vs, e, p⟩
  have ed : H' d = some (.frz od (.dT (fs.map kvc))) := s _ _ upd_same
  by_cases hlt : j < fs.length
  · refine .inr ⟨⟨ed, by rw [List.length_map]; exact hlt⟩, fun H2 => Same (upd H d (.frz od (.dT (fs.map kvc)))) H2 ∧ ∃ vs, H2 D = some (.lst vs) ∧ Paired (Tn H2) vs (fs.take (j + 1)), fun H2 h2 => ⟨fs.length - (j + 1), by omega, rfl, hlt, h2⟩, ?_⟩
    rintro x H2 ⟨rfl, k, v, b, hk, rfl, hb⟩
    rw [List.getElem?_map, List.getElem?_eq_getElem hlt] at hk
    injection hk with hk
    injection hk with hk1 hk2
    subst hk1
    have ew : (wipe σ [i]).set i (some (.ref b)) = σ.set i (some (.ref b)) := set2
    unfold gName
    rw [ew]
    refine ⟨by rw [wipe1, wipe1, set2], es_yes (σ := σ.set i (some (.ref b))) (H := H2) _ fun H3 s3 => iteT (ev_v (hi _) _ ⟨vs, s3 _ _ e, ?_, same_put (s.trans s3) hD, vs ++ [.ref b], upd_same, ?_⟩)⟩
    · have := prd_len p
      rw [List.length_take] at this
      have h2 : 1000 < sizeLine := by decide
      omega
    · have fx := (fx_of s3).trans (fx_put (o := .lst (vs ++ [.ref b])) (s3 _ _ e))
      have hx : fs[j]? = some fs[j] := List.getElem?_eq_getElem hlt
      rw [take_snoc' hx]
      exact prd_app (tns_fx p fx) (prd_one (Tn.fx ⟨b, rfl, by rw [← keyC_map]; exact hb⟩ fx))
  · have ej : j = fs.length := by omega
    refine .inl ⟨⟨ed, by rw [List.length_map]; omega⟩, ed, q _ _ ?_ ?_⟩
    · intro b o hb
      by_cases z : b = d
      · subst z
        rw [h] at hb
        cases hb
        exact upd_same
      · rw [upd_ne z]
        exact s _ _ (by rw [upd_ne z]; exact hb)
    · subst ej
      rw [List.take_length] at p
      have fx : Fx H' (upd H' d (.dT (fs.map kvc))) := fx_put ed
      exact ⟨D, vs, rfl, by rw [upd_ne ne]; exact e, tns_fx p fx⟩
/-- sorting rows of numbers -/
theorem code_nv {B : Nat} : ∀ (r : List Nat) (a : Nat), ((r.foldl (fun a x => a * B + x) a : Nat) : Int) = (a : Int) * (B : Int) ^ r.length + TS.code (B : Int) (r.map fun (n : Nat) => (n : Int))
  | [], a => by simp [TS.code]
  | x :: r, a => by
    rw [List.foldl_cons, code_nv r (a * B + x)]
    show ((a * B + x : Nat) : Int) * (B : Int) ^ r.length + TS.code (B : Int) (r.map fun (n : Nat) => (n : Int)) = (a : Int) * (B : Int) ^ (r.length + 1) + ((x : Int) * (B : Int) ^ (r.map fun (n : Nat) => (n : Int)).length + TS.code (B : Int) (r.map fun (n : Nat) => (n : Int)))
    rw [List.length_map, Int.pow_succ, Int.natCast_add, Int.natCast_mul, Int.add_mul, Int.mul_assoc, Int.mul_comm (B : Int) ((B : Int) ^ r.length), Int.add_assoc]
theorem codeN_eq (B : Nat) (r : List Nat) : TS.code (B : Int) (r.map fun (n : Nat) => (n : Int)) = ((codeN B r : Nat) : Int) := by
  unfold codeN
  rw [code_nv]
  simp
theorem Tn.tupI {v : V} {r : List Nat} (h : Tn H v r) : TupI K H v (r.map fun (n : Nat) => (n : Int)) := by
  obtain ⟨a, rfl, h⟩ := h
  refine ⟨a, rfl, .of ?_⟩
  rw [List.map_map]
  exact h
theorem prd_perm {α β : Type} {F : α → β → Prop} {a a' : List α} (h : a'.Perm a) : ∀ {b : List β}, Paired F a b → ∃ b', b'.Perm b ∧ Paired F a' b' := by
  induction h with
  | nil => intro b p; exact ⟨b, .refl _, p⟩
  | cons x _ ih =>
    intro b p
    cases p with
    | cons r t =>
      obtain ⟨b', h1, h2⟩ := ih t
      exact ⟨_ :: b', h1.cons _, .cons r h2⟩
  | swap x y l =>
    intro b p
    cases p with
    | cons r t =>
      cases t with
      | cons r2 t2 => exact ⟨_, List.Perm.swap _ _ _, .cons r2 (.cons r t2)⟩
  | trans _ _ ih1 ih2 =>
    intro b p
    obtain ⟨b1, h1, p1⟩ := ih2 p
    obtain ⟨b2, h2, p2⟩ := ih1 p1
    exact ⟨b2, h2.trans h1, p2⟩
theorem prd_pairwise {α β : Type} {F : α → β → Prop} {R : α → α → Prop} {S : β → β → Prop} (k : ∀ x y a b, F x a → F y b → R x y → S a b) : ∀ {l : List α} {m : List β}, Paired F l m → l.Pairwise R → m.Pairwise S
  | _, _, .nil, _ => List.Pairwise.nil
  | _, _, .cons r t, h => by
    obtain ⟨h1, h2⟩ := List.pairwise_cons.mp h
    refine List.pairwise_cons.mpr ⟨fun b hb => ?_, prd_pairwise k t h2⟩
    obtain ⟨j, hj⟩ := List.getElem?_of_mem hb
    obtain ⟨x, hx, hf⟩ := prd_at t hj
    exact k _ _ _ _ r hf (h1 x (List.mem_of_getElem? hx))
theorem rs_sortT {n : Nat} {fs gs : List (List Nat)} (h : Rs te σ H fun H' v => Lt H' v fs) (hl : fs.length < 64) (hn : ∀ r ∈ fs, r.length = n ∧ ∀ z ∈ r, z < n) (hp : fs.Perm gs) (hg : gs.Pairwise fun r q => codeN n r < codeN n q) :
    Rs (tCB (rSortU K n (n : Int)) (tCons te tNil)) σ H fun H' v => Lt H' v gs := fun Q q => h _ fun v H1 s1 ⟨a, vs, e, ha, p⟩ => by
  subst e
  refine ⟨a, vs, rfl, .of ha, by rw [prd_len p]; exact hl, fun x hx => ?_, fun ys b hy hw hb => ?_⟩
  · obtain ⟨j, hj⟩ := List.getElem?_of_mem hx
    obtain ⟨r, hr, ht⟩ := prd_at' p hj
    have hm := hn r (List.mem_of_getElem? hr)
    refine ⟨_, ht.tupI, by rw [List.length_map]; exact hm.1, fun m hmm => ?_⟩
    obtain ⟨z, hz, rfl⟩ := List.mem_map.mp hmm
    have := hm.2 z hz
    omega
  · obtain ⟨us, h1, h2⟩ := prd_perm hy p
    have sorted : us.Pairwise fun r q => (codeN n r : Int) ≤ (codeN n q : Int) := prd_pairwise (fun x y a b fa fb hr => by
      have := hr _ _ fa.tupI fb.tupI
      rw [codeN_eq, codeN_eq] at this
      exact this) h2 hw
    have eq : us = gs := sorted_eq (key := fun r => (codeN n r : Int)) (h1.trans hp) sorted (hg.imp fun h => by omega)
    subst eq
    exact q _ _ (s1.trans (same_new hb)) ⟨b, ys, rfl, upd_same, tns_fx h2 (fx_new hb)⟩
end
end W7
end
section
set_option Elab.async false
set_option linter.all false
set_option maxRecDepth 100000
set_option maxHeartbeats 1000000
namespace W7
open PySem PySem.Spec PyProof.Rows L2 RZ K37 K37E M7
structure SI (t : List (List Nat)) (x y : Nat) (single : List (List Nat)) : Prop where
  gens : ∀ s ∈ single, ∃ p : Nat × Nat, p.1 < t.length ∧ p.2 < t.length ∧ GenBy t [p] s
  every : ∀ x' y', y' < x' → (x' < x ∨ (x' = x ∧ y' < y)) → ∃ s ∈ single, GenBy t [(y', x')] s
  few : single.length ≤ 24 * x + y
theorem si_step {t : List (List Nat)} {x y : Nat} {single single' : List (List Nat)} {g : List Nat} (I : SI t x y single) (hx : x < t.length) (hy : y < x) (G : GenBy t [(y, x)] g) (hs : ∀ s ∈ single, s ∈ single') (hg : g ∈ single') (hb : ∀ s ∈ single', s ∈ single ∨ s = g) (hl : single'.length ≤ single.length + 1) : SI t x (y + 1) single' := by
  refine ⟨fun s h => ?_, fun x' y' h h2 => ?_, by have := I.few; omega⟩
  · rcases hb s h with q | rfl
    · exact I.gens s q
    · exact ⟨(y, x), by show y < _; omega, hx, G⟩
  · by_cases e : x' = x ∧ y' = y
    · rw [e.1, e.2]
      exact ⟨g, hg, G⟩
    · obtain ⟨s, h3, h4⟩ := I.every x' y' h (by omega)
      exact ⟨s, hs s h3, h4⟩
theorem si_row {t : List (List Nat)} {x : Nat} {single : List (List Nat)} (I : SI t x x single) (hx : x < 24) : SI t (x + 1) 0 single := ⟨I.gens, fun x' y' h h2 => I.every x' y' h (by omega), by have := I.few; omega⟩
section
variable {P : Program} {w : World} {K : PySem.W.Frag} {mg : Str → Option Value} {base : Heap} {C : Addr}
def spCongs (C : Addr) : Sp := fun vs H Q _ => ∃ (sv : V) (t : List (List Nat)), vs = [sv] ∧ SG C H sv t ∧ Sq t ∧ t.length ≤ 4 ∧ ∀ u H', Same H H' → Tt H' u (congs t) → Q u H'
theorem sc_congruences : FnScope ["s", "single", "x", "y", "own", "found", "layer", "fresh", "one", "two", "both", "classes"] ["s"] (defScope s_congruences) := ⟨rfl, rfl, rfl, by decide +kernel, rfl, by decide +kernel, by decide +kernel⟩
theorem h_congruences {tk : Tok} (D : Dfn K mg "congruences" s_congruences) (T : Bl mg) (S : SemF K mg C) (gM1000 : mg "MOST_CONGRUENCES" = some (.int 1000 tk)) (H_generated : Has P w K mg base "generated" ["s", "pairs"] 5 (spGen C)) (H_joined : Has P w K mg base "joined" ["a", "b"] 2 spJoined) : Has P w K mg base "congruences" ["s"] 6 (spCongs C) := by
  refine D.has sc_congruences (fun _ _ _ _ _ _ us hl => match us, hl with | [_], _ => rfl) (fun vs H Q E h => by obtain ⟨sv, t, rfl, _⟩ := h; rfl) (fun f cdv A outer s H vs Q E hr h => ?_)
  obtain ⟨sv, t, rfl, hs, Sqt, h4, q⟩ := h
  have hpos := Sqt.pos
  refine ⟨_, (pss_cons (ps_set (i := 1) sc_congruences.nd rfl (Or.inl rfl) (pe_lst pa_nil))
      (pss_cons (ps_for PassesOwn.never (by rfl) (pi_range1 (by rfl) T.range (pa_cons (pe_fldN S (pv 0)) pa_nil)) (pg_name (i := 2) sc_congruences.nd rfl (Or.inl rfl)) (pss_one (ps_for PassesOwn.never (by rfl) (pi_range1 (by rfl) T.range (pa_cons (pv 2) pa_nil)) (pg_name (i := 3) sc_congruences.nd rfl (Or.inl rfl)) (pss_cons (ps_set (i := 4) sc_congruences.nd rfl (Or.inl rfl) (pe_has H_generated (hr.mono (by decide)) (pa_cons (pv 0) (pa_cons (pe_lst (pa_cons (pe_tup (pa_cons (pv 3) (pa_cons (pv 2) pa_nil))) pa_nil)) pa_nil))))
      (pss_one (ps_if (pt_cmpR (nt7 (hu65 hr)) (pv 4) (pv 1) (by rfl)) (pss_one (ps_expr (pe_l7 PySem.F.slot_list_append PySem.F.type_list_append app7 (pv 1) (pa_cons (pv 4) pa_nil)))) pss_nil))))))
      (pss_cons (ps_set (i := 5) sc_congruences.nd rfl (Or.inl rfl) (pe_disp1 (hu0 hr) (pe_tupRg (by rfl) (by rfl) T.tuple (prg_1 (by rfl) T.range (pe_fldN S (pv 0)))) pe_bl))
      (pss_cons (ps_set (i := 6) sc_congruences.nd rfl (Or.inl rfl) (pe_lst (pa_cons (pe_tupRg (by rfl) (by rfl) T.tuple (prg_1 (by rfl) T.range (pe_fldN S (pv 0)))) pa_nil)))
      (pss_cons (ps_while PassesOwn.never (pt_cmpR op_gt (pe_callB len7 (by rfl) T.len (by decide +kernel) (pa_cons (pv 6) pa_nil)) pe_int (nomark _)) (pss_cons (ps_set (i := 7) sc_congruences.nd rfl (Or.inl rfl) (pe_lst pa_nil))
      (pss_cons (ps_for PassesOwn.never (by rfl) (pi7L K (pe_callTy list7 (by rfl) T.list (by decide +kernel) (pa_cons (pv 6) pa_nil))) (pg_name (i := 8) sc_congruences.nd rfl (Or.inl rfl)) (pss_cons (ps_for PassesOwn.never (by rfl) (pi7L K (pv 1)) (pg_name (i := 9) sc_congruences.nd rfl (Or.inl rfl)) (pss_cons (ps_set (i := 10) sc_congruences.nd rfl (Or.inl rfl) (pe_has H_joined (hr.mono (by decide)) (pa_cons (pv 8) (pa_cons (pv 9) pa_nil))))
      (pss_one (ps_if (pt_cmp (pc_dnotin (hu_of hr) (pv 10) (pv 5))) (pss_cons (ps_dput (hu_of hr) (pv 5) (pv 10) pe_bl (by rfl))
      (pss_one (ps_expr (pe_l7 PySem.F.slot_list_append PySem.F.type_list_append app7 (pv 7) (pa_cons (pv 10) pa_nil))))) pss_nil))))
      (pss_one (ps_if (pt_cmpR op_gt (pe_callB call_len_dT (by rfl) T.len (by decide +kernel) (pa_cons (pv 5) pa_nil)) (pe_glob (v := .int 1000) (by rfl) gM1000 ⟨_, rfl⟩) (nomark _)) (pss_one ps_never) pss_nil))))
      (pss_one (ps_set (i := 6) sc_congruences.nd rfl (Or.inl rfl) (pv 7))))))
      (pss_one (ps_ret (pe_callTy tup7 (by rfl) T.tuple (by decide +kernel) (pa_cons (pe_callB (cr_sortT (d := t.length) (B := (t.length : Int)) hpos) (by rfl) T.sorted (by decide +kernel) (pa_cons (pe_lock (pe_lc (own := [("classes", 11)]) (g := gName 11) (by rfl) sc_congruences.nd (pi_keys (pv 5)) (blkOk_by (by kernel_rfl)) (fun _ _ _ _ _ => pg_name (i := 11) sc_congruences.nd rfl (Or.inl rfl)) (fun _ _ _ _ _ => pts_nil) (fun _ _ _ _ _ => (pv 11)))) pa_nil)) pa_nil))))))))), ?_⟩
  refine sq_ (sets_ rs_lst0 fun v1 H1 s1 hl1 => ?_)
  obtain ⟨sl, rfl, hsl0, hl1⟩ := hl1
  have big : 1000000 < sizeLine := by decide
  -- the single ones
  refine sq_ (forR_ (n := t.length) (ev_n (ev_v rfl) (hs.same s1)) (sl1000 (by omega)) (fun x σ H' => Same H H' ∧ ∃ us single a b c d e f g h i j, σ = [some sv, some (.ref sl), a, b, c, d, e, f, g, h, i, j] ∧ H' sl = some (.lst us) ∧ Paired (Tn H') us single ∧ SI t x 0 single)
    ⟨s1, [], [], none, none, none, none, none, none, none, none, none, none, rfl, hl1, .nil, fun s hs => (by cases hs), fun x' y' _ h => (by omega), Nat.zero_le _⟩ (fun x σ H' hx h => ?_) fun σ H' h => ?_)
  · obtain ⟨s2, us, single, a, b, c, d, e, f, g, h, i, j, rfl, hus, pus, I⟩ := h
    refine forR_ (n := x) (ev_v rfl) (sl1000 (by omega)) (fun y σ H' => Same H H' ∧ ∃ us single b c d e f g h i j, σ = [some sv, some (.ref sl), some (.int (x : Nat)), b, c, d, e, f, g, h, i, j] ∧ H' sl = some (.lst us) ∧ Paired (Tn H') us single ∧ SI t x y single) ⟨s2, us, single, b, c, d, e, f, g, h, i, j, rfl, hus, pus, I⟩ (fun y σ H' hy h => ?_) fun σ H' h => ?_
    · obtain ⟨s3, us, single, b, c, d, e, f, g, h, i, j, rfl, hus, pus, I⟩ := h
      refine sq_ (sets_ (rs_call2 (P := fun H' u => PrL H' u [(y, x)]) (P' := fun H' v => ∃ g, Tn H' v g ∧ GenBy t [(y, x)] g) (ev_v rfl) (Rs.imp (rs_lst1 (P := fun H' u => Pr H' u (y, x)) (rs_pair (ev_v rfl) (ev_v rfl)) fun _ _ _ f h => h.fx f) fun H' v s ⟨p, u, e, _, h, h2⟩ => ⟨p, [u], e, h, prd_one h2⟩) fun u H4 s4 h4 Q q => ⟨sv, u, t, [(y, x)], rfl, hs.same (s3.trans s4), Sqt, h4, fun p hp => by rw [List.mem_singleton.mp hp]; exact ⟨by show y < _; omega, hx⟩, by simp, fun v g H5 s5 h5 G => q v H5 s5 ⟨g, h5, G⟩⟩) fun ov H4 s4 ⟨gg, hov, G⟩ => ?_)
      have e4 := s4 _ _ hus
      have p4 := tns_fx pus (fx_of s4)
      refine ifn_ (et_nt7 (ev_v rfl) (ev_v rfl) hov ⟨sl, us, rfl, e4, p4⟩) (fun hb => ?_) fun hb => ?_
      · have nin := of_decide_eq_true hb
        have lf := I.few
        refine app_ (l := sl) (xs := us) (P := fun H' v => Tn H' v gg) (ev_v rfl) e4 ((ev_v rfl).rs hov) (by rw [prd_len p4]; omega) fun v5 H5 s5 h5 => ?_
        have e5 := s5 _ _ e4
        have fx5 := fx_put (o := HO.lst (us ++ [v5])) e5
        exact ⟨same_put ((s3.trans s4).trans s5) hsl0, us ++ [v5], single ++ [gg], _, _, _, _, _, _, _, _, _, rfl, upd_same, prd_app (tns_fx p4 ((fx_of s5).trans fx5)) (prd_one (h5.fx fx5)), si_step I hx hy G (fun s h => List.mem_append_left _ h) (List.mem_append_right _ (List.mem_singleton.mpr rfl)) (fun s h => (List.mem_append.mp h).elim .inl fun h => .inr (List.mem_singleton.mp h)) (by simp)⟩
      · have inn : gg ∈ single := by simpa using of_decide_eq_false hb
        exact ⟨s3.trans s4, us, single, _, _, _, _, _, _, _, _, _, rfl, e4, p4, si_step I hx hy G (fun s h => h) inn (fun s h => .inl h) (Nat.le_succ _)⟩
    · obtain ⟨s3, us, single, b, c, d, e, f, g, h, i, j, rfl, hus, pus, I⟩ := h
      exact ⟨s3, us, single, _, _, _, _, _, _, _, _, _, _, rfl, hus, pus, si_row I (by omega)⟩
  obtain ⟨s2, us, single, a, b, c, d, e, f, g, h, i, j, rfl, hus, pus, I⟩ := h
  -- found, layer
  refine sq_ (sets_ (rs_disp1 (c := List.range t.length) (fun H3 s3 => rs_tupRg (n := t.length) (ev_n (ev_v rfl) (hs.same (s2.trans s3))) (by omega)) fun _ => ev_c) fun v3 H3 s3 ⟨dd, e3, hd2, hd3⟩ => ?_)
  subst e3
  have hd0 : H dd = none := s2.free hd2
  have hs3 := s2.trans s3
  refine sq_ (sets_ (P := fun H' v => Lt H' v [List.range t.length]) (Rs.imp (rs_lst1 (P := fun H' u => Tn H' u (List.range t.length)) (rs_tupRg (n := t.length) (ev_n (ev_v rfl) (hs.same hs3)) (by omega)) fun _ _ _ f h => h.fx f) fun H' v s ⟨p, u, e, _, h, h2⟩ => ⟨p, [u], e, h, prd_one h2⟩) fun lv H4 s4 hlv => ?_)
  have hus4 := (s3.trans s4) _ _ hus
  have pus4 := tns_fx pus (fx_of (s3.trans s4))
  have hlsingle : us.length = single.length := prd_len pus
  have few24 : (congs t).length ≤ 24 := congs_few h4
  have canS : ∀ g ∈ single, IsCong t g := fun g hg => by
    obtain ⟨p, _, _, G⟩ := I.gens g hg
    exact G.cong
  refine sq_ (while_ (fun m σ H' => Same H H' ∧ ∃ a b c lv f g h i j fs layer, σ = [some sv, some (.ref sl), a, b, c, some (.ref dd), some lv, f, g, h, i, j] ∧ H' sl = some (.lst us) ∧ Paired (Tn H') us single ∧ H' dd = some (.dT (fs.map kvc)) ∧ Lt H' lv layer ∧ CW t single layer fs ∧ m = 2 * ((congs t).length - fs.length) + (if layer.length = 0 then 0 else 1))
    (2 * ((congs t).length - 1) + 1) ⟨hs3.trans s4, a, b, c, lv, f, g, h, i, j, [List.range t.length], [List.range t.length], rfl, hus4, pus4, s4 _ _ hd3, hlv, cw_start Sqt, rfl⟩ fun m σ H' h => ?_)
  obtain ⟨s5, a, b, c, lv, f, g, h, i, j, fs, layer, rfl, hus5, pus5, hdd5, hlv5, W, em⟩ := h
  refine ⟨_, et_t (ev_gtN (ev_lenLt (ev_v rfl) hlv5) (ev_c (v := .int (0 : Nat)))), fun hb => ?_, fun hb => ?_⟩
  · have hne := of_decide_eq_true hb
    refine sq_ (sets_ rs_lst0 fun v6 H6 s6 ⟨fl, e6, hfl0, hfl⟩ => ?_)
    subst e6
    have nfs : fl ≠ sl := fun z => by rw [z, hus5] at hfl0; cases hfl0
    have hflH : H fl = none := s5.free hfl0
    obtain ⟨la, lvs, rfl, hla, pla⟩ := hlv5.same s6
    refine sq_ (forLs_ (rs_list7 (ev_v rfl) hla) fun v7 H7 s7 ⟨cp, e7, hcp0, hcp⟩ => ?_)
    subst e7
    have ncf : cp ≠ fl := fun z => by rw [z, hfl] at hcp0; cases hcp0
    have s67 := s6.trans s7
    have lvl := prd_len pla
    refine forL_ (p := cp) (xs := lvs) ev_c hcp (fun n σ H' => Same H H' ∧ ∃ a b c g h i j fu fs' fresh, σ = [some sv, some (.ref sl), a, b, c, some (.ref dd), some (.ref la), some (.ref fl), g, h, i, j] ∧ H' sl = some (.lst us) ∧ Paired (Tn H') us single ∧ H' dd = some (.dT (fs'.map kvc)) ∧ H' cp = some (.lst lvs) ∧ Paired (Tn H') lvs layer ∧ H' fl = some (.lst fu) ∧ Paired (Tn H') fu fresh ∧ CI t single layer fs.length n 0 fs' fresh)
      ⟨s5.trans s67, a, b, c, g, h, i, j, [], fs, [], rfl, s67 _ _ hus5, tns_fx pus5 (fx_of s67), s67 _ _ hdd5, hcp, tns_fx pla (fx_of s7), s7 _ _ hfl, .nil, ci_start W⟩ (fun n σ H' h => ?_) (fun n x σ H' hx h => ?_) fun σ H' h => ?_
    · obtain ⟨_, _, _, _, _, _, _, _, _, _, _, _, _, _, _, h, _⟩ := h
      exact h
    · obtain ⟨s8, a, b, c, g, h, i, j, fu, fs', fresh, rfl, hus8, pus8, hdd8, hcp8, plv8, hfl8, pfr8, I8⟩ := h
      obtain ⟨one, hone, hxone⟩ := prd_at' plv8 hx
      have cone : IsCong t one := I8.congs one (I8.lay one (List.mem_of_getElem? hone))
      refine sq_ (forL_ (p := sl) (xs := us) (ev_v rfl) hus8 (fun k σ H' => Same H H' ∧ ∃ a b c h i j fu fs' fresh, σ = [some sv, some (.ref sl), a, b, c, some (.ref dd), some (.ref la), some (.ref fl), some x, h, i, j] ∧ Tn H' x one ∧ H' sl = some (.lst us) ∧ Paired (Tn H') us single ∧ H' dd = some (.dT (fs'.map kvc)) ∧ H' cp = some (.lst lvs) ∧ Paired (Tn H') lvs layer ∧ H' fl = some (.lst fu) ∧ Paired (Tn H') fu fresh ∧ CI t single layer fs.length n k fs' fresh)
        ⟨s8, a, b, c, h, i, j, fu, fs', fresh, rfl, hxone, hus8, pus8, hdd8, hcp8, plv8, hfl8, pfr8, I8⟩ (fun k σ H' h => ?_) (fun k y σ H' hy h => ?_) fun σ H' h => ?_)
      · obtain ⟨_, _, _, _, _, _, _, _, _, _, _, _, h, _⟩ := h
        exact h
      · obtain ⟨s9, a, b, c, h, i, j, fu, fs', fresh, rfl, hx9, hus9, pus9, hdd9, hcp9, plv9, hfl9, pfr9, I9⟩ := h
        obtain ⟨two, htwo, hytwo⟩ := prd_at' pus9 hy
        have ctwo := canS two (List.mem_of_getElem? htwo)
        have cboth := cong_join Sqt cone ctwo
        refine sq_ (sets_ (rs_call (P := fun H' u => Tn H' u (joinC one two)) (ea_cons (ev_v rfl) (ea_cons (ev_v rfl) ea_nil)) fun Q q => ⟨x, y, t.length, one, two, rfl, hx9, hytwo, cone.canon, ctwo.canon, by omega, fun u H' s h => q u H' s h⟩) fun bv H10 s10 hbv => ?_)
        have hdd10 := s10 _ _ hdd9
        have hfl10 := s10 _ _ hfl9
        refine ifn_ (et_notinD (ev_v rfl) (ev_v rfl) hdd10 hbv) (fun hb => ?_) fun hb => ?_
        · have nin := of_decide_eq_true hb
          have I10 := ci_new I9 hone htwo cboth nin
          have hle := ci_le I10
          rw [List.length_append, List.length_singleton] at hle
          have hlen := I9.len
          refine sq_ (dput_ ev_c (ev_v rfl) (ev_v rfl) hdd10 hbv nin (by omega) ?_)
          have fx11 := fx_dT (o := HO.dT ((fs' ++ [joinC one two]).map kvc)) hdd10
          have nfd : fl ≠ dd := ne_of hfl10 hdd10 (by intro z; cases z)
          have nsd : sl ≠ dd := ne_of (s10 _ _ hus9) hdd10 (by intro z; cases z)
          have ncd : cp ≠ dd := ne_of (s10 _ _ hcp9) hdd10 (by intro z; cases z)
          have lfu := prd_len pfr9
          refine app_ (l := fl) (xs := fu) (P := fun H' v => Tn H' v (joinC one two)) (ev_v rfl) (by rw [upd_ne nfd]; exact hfl10) ((ev_v rfl).rs (hbv.fx fx11)) (by omega) fun v12 H12 s12 h12 => ?_
          have e12 : H12 fl = some (.lst fu) := s12 _ _ (by rw [upd_ne nfd]; exact hfl10)
          have fx12 := fx_put (o := HO.lst (fu ++ [v12])) e12
          have fxa := ((fx_of s10).trans fx11).trans ((fx_of s12).trans fx12)
          have ndf : dd ≠ fl := fun z => nfd z.symm
          refine ⟨same_put ((same_put (s9.trans s10) hd0).trans s12) hflH, a, b, c, _, _, _, fu ++ [v12], fs' ++ [joinC one two], fresh ++ [joinC one two], rfl, hx9.fx fxa, ?_, tns_fx pus9 fxa, ?_, ?_, tns_fx plv9 fxa, upd_same, prd_app (tns_fx pfr9 fxa) (prd_one (h12.fx fx12)), I10⟩
          · rw [upd_ne (fun z => nfs z.symm)]
            exact s12 _ _ (by rw [upd_ne nsd]; exact s10 _ _ hus9)
          · rw [upd_ne ndf]
            exact s12 _ _ upd_same
          · rw [upd_ne ncf]
            exact s12 _ _ (by rw [upd_ne ncd]; exact s10 _ _ hcp9)
        · have inn : joinC one two ∈ fs' := by simpa using of_decide_eq_false hb
          have fxa := fx_of s10
          exact ⟨s9.trans s10, a, b, c, _, _, _, fu, fs', fresh, rfl, hx9.fx fxa, s10 _ _ hus9, tns_fx pus9 fxa, hdd10, s10 _ _ hcp9, tns_fx plv9 fxa, hfl10, tns_fx pfr9 fxa, ci_hit I9 hone htwo inn⟩
      · obtain ⟨s9, a, b, c, h, i, j, fu, fs', fresh, rfl, hx9, hus9, pus9, hdd9, hcp9, plv9, hfl9, pfr9, I9⟩ := h
        rw [hlsingle] at I9
        have hle := ci_le I9
        exact chk_ (et_of (et_t (ev_gtN (ev_lendT (ev_v rfl) hdd9) (ev_c (v := .int (1000 : Nat))))) (decide_eq_false (by rw [List.length_map]; omega))) ⟨s9, a, b, c, _, _, _, _, fu, fs', fresh, rfl, hus9, pus9, hdd9, hcp9, plv9, hfl9, pfr9, ci_next I9 hone⟩
    · obtain ⟨s8, a, b, c, g, h, i, j, fu, fs', fresh, rfl, hus8, pus8, hdd8, hcp8, plv8, hfl8, pfr8, I8⟩ := h
      rw [lvl] at I8
      have W8 := ci_end I8
      have hle := cw_le W8
      have hlen := I8.len
      refine set_ (ev_v rfl) ⟨_, ?_, s8, a, b, c, .ref fl, _, g, h, i, j, fs', fresh, rfl, hus8, pus8, hdd8, ⟨fl, fu, rfl, hfl8, pfr8⟩, W8, rfl⟩
      rw [em, if_neg (c := layer.length = 0) (by omega)]
      split <;> omega
  · have h0 : layer = [] := by
      have := of_decide_eq_false hb
      exact List.eq_nil_of_length_eq_zero (by omega)
    subst h0
    have perm := cw_done Sqt W I.gens fun x y h1 h2 => I.every x y h1 (.inl h2)
    have hle := cw_le W
    refine rets_ (rs_tupT (rs_sortT (n := t.length) (gs := congs t) (rs_keys (fun _ => ev_v rfl) hdd5 (fun _ => rfl) (by omega)) (by omega) (fun r hr => ?_) perm (congs_sorted t))) fun u H6 s6 h6 => q u H6 (s5.trans s6) h6
    have cr := (W.congs r hr).canon
    refine ⟨cr.len, fun z hz => ?_⟩
    obtain ⟨x, hx, e⟩ := mem_at hz
    rw [← e]
    exact cr.lt (by rw [← cr.len]; exact hx)
end
end W7
end
section
set_option linter.all false
set_option maxRecDepth 100000
/-! the Moebius numbers as the program makes them -/
namespace M7
theorem heads_sub {n : Nat} {c d : List Nat} (C : Canon n c) (D : Canon n d) (h : Le n c d) {x : Nat} (hx : x < n) (e : at' d x = x) : at' c x = x := by
  have h1 := C.le x hx
  have h2 := C.lt hx
  have h3 := h (at' c x) x h2 hx (C.fix x hx)
  have h4 := D.le (at' c x) h2
  omega
theorem heads_lt {n : Nat} {c d : List Nat} (C : Canon n c) (D : Canon n d) (h : Le n c d) (ne : c ≠ d) : (heads d).length < (heads c).length := by
  have lc := C.len
  have ld := D.len
  have ex : ∃ x, x < n ∧ at' c x = x ∧ ¬ at' d x = x := by
    refine Classical.byContradiction fun no => ne ?_
    refine ext_at (by rw [lc, ld]) fun u hu => ?_
    rw [lc] at hu
    have h1 := C.lt hu
    have h2 : at' d (at' c u) = at' c u := Classical.byContradiction fun q => no ⟨_, h1, C.fix u hu, q⟩
    have h3 := h (at' c u) u h1 hu (C.fix u hu)
    omega
  obtain ⟨x, hx, e1, e2⟩ := ex
  unfold heads
  rw [lc, ld]
  have strict : ∀ {l : List Nat} {p q : Nat → Bool}, (∀ z ∈ l, p z = true → q z = true) → x ∈ l → q x = true → p x = false → (l.filter p).length < (l.filter q).length := by
    intro l p q hh hx hq hp
    induction l with
    | nil => cases hx
    | cons y l ih =>
      have hh' := fun z hz => hh z (List.mem_cons_of_mem _ hz)
      have le := filter_mono hh'
      rcases List.mem_cons.mp hx with rfl | hx
      · rw [List.filter_cons_of_pos hq, List.filter_cons_of_neg (by rw [hp]; decide)]
        exact Nat.lt_succ_of_le le
      · have ih := ih hh' hx
        by_cases hy : p y = true
        · rw [List.filter_cons_of_pos hy, List.filter_cons_of_pos (hh y List.mem_cons_self hy)]
          exact Nat.succ_lt_succ ih
        · rw [List.filter_cons_of_neg hy]
          by_cases hz : q y = true
          · rw [List.filter_cons_of_pos hz]
            exact Nat.lt_succ_of_lt ih
          · rw [List.filter_cons_of_neg hz]
            exact ih
  refine strict (fun z hz h' => ?_) (List.mem_range.mpr hx) (decide_eq_true e1) (decide_eq_false e2)
  exact decide_eq_true (heads_sub C D h (List.mem_range.mp hz) (of_decide_eq_true h'))
theorem heads_range (n : Nat) : (heads (List.range n)).length = n := by
  unfold heads
  rw [List.length_range, List.filter_eq_self.mpr fun x hx => decide_eq_true (at_range (List.mem_range.mp hx)), List.length_range]
theorem heads_full {n : Nat} {c : List Nat} (C : Canon n c) : (heads c).length = n ↔ c = List.range n := by
  constructor
  · intro h
    refine Classical.byContradiction fun ne => ?_
    have := heads_lt (canon_range n) C (range_le c) fun e => ne e.symm
    rw [heads_range] at this
    omega
  · rintro rfl
    exact heads_range n
/-! sums -/
theorem isum_perm {l m : List Int} (h : l.Perm m) : isum l = isum m := by
  induction h with
  | nil => rfl
  | cons x _ ih => rw [isum_cons, isum_cons, ih]
  | swap x y l => rw [isum_cons, isum_cons, isum_cons, isum_cons]; omega
  | trans _ _ a b => rw [a, b]
theorem isum_filter {α : Type} (p : α → Bool) (f : α → Int) : ∀ l : List α, isum (l.map fun k => if p k = true then f k else 0) = isum ((l.filter p).map f)
  | [] => rfl
  | x :: l => by
    rw [List.map_cons, isum_cons, isum_filter p f l]
    by_cases h : p x = true
    · rw [if_pos h, List.filter_cons_of_pos h, List.map_cons, isum_cons]
    · rw [if_neg h, List.filter_cons_of_neg h]
      omega
/-! the order of work -/
def valM (R : List (List Nat)) (n : Nat) (done : List (Nat × Int)) (i : Nat) : Int := if (heads (rowAt R i)).length = n then 1 else - isum ((done.filter fun p => refB (rowAt R p.1) (rowAt R i)).map (·.2))
def stepM (R : List (List Nat)) (n : Nat) (done : List (Nat × Int)) (i : Nat) : List (Nat × Int) := done ++ [(i, valM R n done i)]
def procM (R : List (List Nat)) (n : Nat) (is : List Nat) : List (Nat × Int) := is.foldl (stepM R n) []
def muOf (done : List (Nat × Int)) (k : Nat) : Int := ((done.find? fun p => decide (p.1 = k)).map (·.2)).getD 0
theorem proc_snoc (R : List (List Nat)) (n : Nat) (is : List Nat) (i : Nat) : procM R n (is ++ [i]) = procM R n is ++ [(i, valM R n (procM R n is) i)] := by
  unfold procM
  rw [List.foldl_append]
  rfl
theorem fold_pre (R : List (List Nat)) (n : Nat) : ∀ (is : List Nat) (d : List (Nat × Int)), ∃ r, is.foldl (stepM R n) d = d ++ r ∧ r.map (·.1) = is
  | [], d => ⟨[], by simp, rfl⟩
  | i :: is, d => by
    obtain ⟨r, e, k⟩ := fold_pre R n is (stepM R n d i)
    refine ⟨(i, valM R n d i) :: r, ?_, by rw [List.map_cons, k]⟩
    rw [List.foldl_cons, e]
    unfold stepM
    simp
theorem proc_keys (R : List (List Nat)) (n : Nat) (is : List Nat) : (procM R n is).map (·.1) = is := by
  obtain ⟨r, e, k⟩ := fold_pre R n is []
  unfold procM
  rw [e, List.nil_append, k]
theorem mu_app {A B : List (Nat × Int)} {k : Nat} (h : k ∈ A.map (·.1)) : muOf (A ++ B) k = muOf A k := by
  unfold muOf
  rw [List.find?_append]
  have : (A.find? fun p => decide (p.1 = k)).isSome = true := by
    rw [List.find?_isSome]
    obtain ⟨p, hp, e⟩ := List.mem_map.mp h
    exact ⟨p, hp, decide_eq_true e⟩
  obtain ⟨x, hx⟩ := Option.isSome_iff_exists.mp this
  rw [hx]
  rfl
theorem mu_snoc {A : List (Nat × Int)} {k : Nat} {v : Int} (h : k ∉ A.map (·.1)) : muOf (A ++ [(k, v)]) k = v := by
  unfold muOf
  rw [List.find?_append]
  have : (A.find? fun p => decide (p.1 = k)) = none := by
    rw [List.find?_eq_none]
    intro p hp e
    exact h (List.mem_map.mpr ⟨p, hp, of_decide_eq_true e⟩)
  rw [this]
  simp
theorem mu_self : ∀ {A : List (Nat × Int)}, (A.map (·.1)).Nodup → A = (A.map (·.1)).map fun k => (k, muOf A k)
  | [], _ => rfl
  | (k, v) :: A, h => by
    rw [List.map_cons] at h
    obtain ⟨h1, h2⟩ := List.nodup_cons.mp h
    have ih := mu_self h2
    rw [List.map_cons, List.map_cons]
    have e1 : muOf ((k, v) :: A) k = v := by simp [muOf]
    rw [e1]
    congr 1
    refine ih.trans (List.map_congr_left fun j hj => ?_)
    have ne : ¬ k = j := fun e => h1 (e ▸ hj)
    have : muOf ((k, v) :: A) j = muOf A j := by
      unfold muOf
      rw [List.find?_cons_of_neg (by simpa using ne)]
    rw [this]
theorem moeb_ok {n : Nat} {R : List (List Nat)} {is : List Nat} (nd : R.Nodup) (can : ∀ r ∈ R, Canon n r) (perm : is.Perm (List.range R.length)) (ord : is.Pairwise fun a b => ¬ Le n (rowAt R b) (rowAt R a)) : MoebOk n R ((List.range R.length).map (muOf (procM R n is))) := by
  refine ⟨by rw [List.length_map, List.length_range], fun j hj => ?_⟩
  have ndi : is.Nodup := perm.nodup_iff.mpr List.nodup_range
  have row : ∀ {k}, k < R.length → rowAt R k ∈ R := fun h => by
    unfold rowAt
    rw [List.getD_eq_getElem?_getD, List.getElem?_eq_getElem h]
    exact List.getElem_mem h
  have inj : ∀ {k l}, k < R.length → l < R.length → rowAt R k = rowAt R l → k = l := fun h1 h2 e => by
    unfold rowAt at e
    rw [List.getD_eq_getElem?_getD, List.getElem?_eq_getElem h1, List.getD_eq_getElem?_getD, List.getElem?_eq_getElem h2] at e
    exact (List.getElem_inj nd).mp e
  have inr : ∀ {k}, k ∈ is → k < R.length := fun h => List.mem_range.mp (perm.mem_iff.mp h)
  obtain ⟨pre, post, e⟩ := List.append_of_mem (perm.mem_iff.mpr (List.mem_range.mpr hj))
  generalize hF : procM R n is = F
  have e1 : (List.range R.length).map (fun k => if refB (rowAt R k) (rowAt R j) = true then ati ((List.range R.length).map (muOf F)) k else 0) = (List.range R.length).map fun k => if refB (rowAt R k) (rowAt R j) = true then muOf F k else 0 := List.map_congr_left fun k hk => by
    have hk := List.mem_range.mp hk
    have : ati ((List.range R.length).map (muOf F)) k = muOf F k := by
      unfold ati
      rw [List.getD_eq_getElem?_getD, List.getElem?_map, List.getElem?_eq_getElem (by rw [List.length_range]; exact hk), List.getElem_range]
      rfl
    rw [this]
  rw [e1, isum_perm (perm.symm.map fun k => if refB (rowAt R k) (rowAt R j) = true then muOf F k else 0)]
  have es : is = (pre ++ [j]) ++ post := by rw [e]; simp
  obtain ⟨r, er, _⟩ := fold_pre R n post (procM R n (pre ++ [j]))
  have hF2 : F = procM R n (pre ++ [j]) ++ r := by
    rw [← hF, es, ← er]
    unfold procM
    rw [List.foldl_append]
  rw [es] at ndi ord
  obtain ⟨nd1, nd2, nd3⟩ := List.nodup_append.mp ndi
  obtain ⟨nd4, nd5, nd6⟩ := List.nodup_append.mp nd1
  have hjp : j ∉ pre := fun h => nd6 j h j (List.mem_singleton.mpr rfl) rfl
  have hmj : muOf F j = valM R n (procM R n pre) j := by
    rw [hF2, mu_app (by rw [proc_keys]; exact List.mem_append_right _ (List.mem_singleton.mpr rfl)), proc_snoc]
    exact mu_snoc (by rw [proc_keys]; exact hjp)
  have hpre : procM R n pre = pre.map fun k => (k, muOf F k) := by
    have h1 := mu_self (A := procM R n pre) (by rw [proc_keys]; exact nd4)
    rw [proc_keys] at h1
    refine h1.trans (List.map_congr_left fun k hk => ?_)
    rw [hF2, proc_snoc, List.append_assoc, mu_app (A := procM R n pre) (by rw [proc_keys]; exact hk)]
  have cj := can _ (row hj)
  have self : refB (rowAt R j) (rowAt R j) = true := (refB_iff cj).mpr (Le.refl _ _)
  have ordp : ∀ k ∈ post, ¬ Le n (rowAt R k) (rowAt R j) := fun k hk => (List.pairwise_append.mp ord).2.2 j (List.mem_append_right _ (List.mem_singleton.mpr rfl)) k hk
  have hpost : isum (post.map fun k => if refB (rowAt R k) (rowAt R j) = true then muOf F k else 0) = 0 := by
    rw [isum_congr (g := fun _ => 0) fun k hk => ?_, isum_zero]
    rw [if_neg]
    intro h
    exact ordp k hk ((refB_iff (can _ (row (inr (by rw [es]; exact List.mem_append_right _ hk))))).mp h)
  rw [es, List.map_append, List.map_append, isum_append, isum_append, hpost, isum_filter]
  have hone : isum ([j].map fun k => if refB (rowAt R k) (rowAt R j) = true then muOf F k else 0) = muOf F j := by
    rw [List.map_cons, List.map_nil, if_pos self]
    show muOf F j + 0 = _
    omega
  rw [hone, hmj]
  have hsum : ((procM R n pre).filter fun p => refB (rowAt R p.1) (rowAt R j)).map (·.2) = (pre.filter fun k => refB (rowAt R k) (rowAt R j)).map (muOf F) := by
    rw [hpre, List.filter_map, List.map_map]
    rfl
  unfold valM
  rw [hsum]
  by_cases hfull : (heads (rowAt R j)).length = n
  · rw [if_pos hfull]
    have ej := (heads_full cj).mp hfull
    rw [if_pos ej]
    have hempty : (pre.filter fun k => refB (rowAt R k) (rowAt R j)) = [] := by
      rw [List.filter_eq_nil_iff]
      intro k hk h
      have hkl := inr (by rw [es]; exact List.mem_append_left _ (List.mem_append_left _ hk))
      have ck := can _ (row hkl)
      have hle := (refB_iff ck).mp h
      have : rowAt R k = rowAt R j := canon_antisymm ck cj hle (by rw [ej]; exact range_le _)
      exact hjp (inj hkl hj this ▸ hk)
    rw [hempty]
    rfl
  · rw [if_neg hfull, if_neg fun h => hfull ((heads_full cj).mpr h)]
    omega
end M7
end
section
set_option Elab.async false
set_option linter.all false
set_option maxRecDepth 100000
set_option maxHeartbeats 1000000
namespace W7
open PySem PySem.Spec PyProof.Rows L2 RZ K37 K37E M7
def TuZ (H : Hp) (v : V) (zs : List Int) : Prop := ∃ a, v = .ref a ∧ H a = some (.tup (zs.map V.int))
theorem TuZ.fx {H H' : Hp} {v : V} {zs : List Int} (h : TuZ H v zs) (f : Fx H H') : TuZ H' v zs := let ⟨a, e, q⟩ := h; ⟨a, e, f _ _ rfl q⟩
def kz (H : Hp) (v : V) : Int × Int := match v with
  | .ref t => (match H t with
    | some (.tup [.int a, .int b]) => (a, b)
    | _ => (0, 0))
  | _ => (0, 0)
theorem kz_of {H : Hp} {v : V} {a b : Int} (h : TuZ H v [a, b]) : kz H v = (a, b) := by
  obtain ⟨t, rfl, h⟩ := h
  unfold kz
  simp only [h, List.map_cons, List.map_nil]
section
variable {σ : L2.St} {H : Hp} {te tk tv el : TE} {tt : TT} {x : V} {K : PySem.W.Frag} {i : Nat} {nx bk ct : L2.St → Hp → Prop} {rt : VK}
/-- sorted by size, then by place -/
theorem rs_order {L : Nat} {cc : Nat → Nat} (h : Rs te σ H fun H' v => ∃ a vs, v = .ref a ∧ H' a = some (.lst vs) ∧ Paired (fun v j => TuZ H' v [-(cc j : Int), (j : Int)]) vs (List.range L)) :
    Rs (tCB (rSortedPO K) (tCons te tNil)) σ H fun H' v => ∃ a vs is, v = .ref a ∧ H' a = some (.lst vs) ∧ Paired (fun v j => TuZ H' v [-(cc j : Int), (j : Int)]) vs is ∧ is.Perm (List.range L) ∧ is.Pairwise fun a b => cc b ≤ cc a := fun Q q => h _ fun v H1 s1 ⟨a, vs, e, ha, p⟩ => by
  subst e
  refine ⟨a, vs, kz H1, rfl, .of ha, fun x hx => ?_, fun ys b hs hb hp => ?_⟩
  · obtain ⟨j, hj⟩ := List.getElem?_of_mem hx
    obtain ⟨k, _, ht⟩ := prd_at' p hj
    have e := kz_of ht
    obtain ⟨c, rfl, hc⟩ := ht
    exact ⟨c, rfl, by rw [e]; exact hc⟩
  · obtain ⟨is, h1, h2⟩ := prd_perm hb.perm p
    refine q _ _ (s1.trans (same_new hp)) ⟨b, ys, is, rfl, upd_same, prd_imp h2 fun v j h => h.fx (fx_new hp), h1, ?_⟩
    refine prd_pairwise (fun x y a b fa fb hr => ?_) h2 hs
    have hr' : SrtO.lexB (kz H1 y) (kz H1 x) = false := hr
    rw [kz_of fa, kz_of fb] at hr'
    have := SrtO.lexB_no.mp hr'
    simp only at this
    omega
def kvi (p : Nat × Int) : Key × V := ((Sum.inl (p.1 : Int) : Key), V.int p.2)
theorem valV_kvi (k : Nat) : ∀ done : List (Nat × Int), valV (done.map kvi) (Sum.inl (k : Int)) = (done.find? fun p => decide (p.1 = k)).map fun p => V.int p.2
  | [] => rfl
  | p :: done => by
    rw [List.map_cons]
    by_cases h : p.1 = k
    · rw [List.find?_cons_of_pos (by simpa using h)]
      subst h
      exact valV_pos (p := kvi p) rfl
    · rw [valV_neg (p := kvi p) (fun e => h (by
        have e2 : (Sum.inl (p.1 : Int) : Key) = Sum.inl (k : Int) := e
        injection e2 with e2
        omega)), valV_kvi k done, List.find?_cons_of_neg (by simpa using h)]
theorem find_mu {done : List (Nat × Int)} {k : Nat} (h : k ∈ done.map (·.1)) : (done.find? fun p => decide (p.1 = k)).map (fun p => V.int p.2) = some (.int (muOf done k)) := by
  unfold muOf
  have : (done.find? fun p => decide (p.1 = k)).isSome = true := by
    rw [List.find?_isSome]
    obtain ⟨p, hp, e⟩ := List.mem_map.mp h
    exact ⟨p, hp, decide_eq_true e⟩
  obtain ⟨p, hp⟩ := Option.isSome_iff_exists.mp this
  rw [hp]
  rfl
theorem find_no {done : List (Nat × Int)} {k : Nat} (h : k ∉ done.map (·.1)) : (done.find? fun p => decide (p.1 = k)).map (fun p => V.int p.2) = none := by
  have : (done.find? fun p => decide (p.1 = k)) = none := by
    rw [List.find?_eq_none]
    intro p hp e
    exact h (List.mem_map.mpr ⟨p, hp, of_decide_eq_true e⟩)
  rw [this]
  rfl
theorem ev_dgetI {d : Addr} {done : List (Nat × Int)} {k : Nat} (hd : Ev te σ H (.ref d)) (hk : Ev tk σ H (.int (k : Nat))) (h : Rd H d (.dK (done.map kvi))) (hm : k ∈ done.map (·.1)) : Ev (tDGet te tk) σ H (.int (muOf done k)) := fun Q q => hd _ (hk _ ⟨d, _, rfl, .inl ⟨_, Sum.inl (k : Int), h, rfl, by rw [valV_kvi, find_mu hm]⟩, q⟩)
theorem dputI_ {td ty tw : TE} {d : Addr} {k : Nat} {z : Int} {done : List (Nat × Int)} (hw : Ev tw σ H (.int z)) (hd : Ev td σ H (.ref d)) (hy : Ev ty σ H (.int (k : Nat))) (h : H d = some (.dK (done.map kvi))) (nin : k ∉ done.map (·.1)) (small : done.length < sizeLine)
    (c : nx σ (upd H d (.dK ((done ++ [(k, z)]).map kvi)))) : sDPut td ty tw ⟨nx, rt, bk, ct⟩ σ H := hw _ (hd _ (hy _ (by
  refine ⟨d, _, rfl, DPut.k (k := Sum.inl (k : Int)) h (by rw [List.length_map]; exact small), ?_⟩
  rw [putK_new _ (by rw [valV_kvi, find_no nin])]
  have e : done.map kvi ++ [(Sum.inl (k : Int), V.int z)] = (done ++ [(k, z)]).map kvi := by rw [List.map_append]; rfl
  rw [e]
  exact c)))
/-- a comprehension over the keys of a locked dict -/
theorem LcB.keysK {d : Addr} {od : Obj} {kvs : List (Key × V)} {y : Nat → V} {b : Nat → Bool} {r : Nat → Hp → V → Prop} {Q : VK} (B : LcB σ H i tt el kvs.length y b r) (hn : Ev te σ H (.ref d)) (hp : H d = some (.frz od (.dK kvs))) (hx : ∀ j k v, kvs[j]? = some (k, v) → kV k = y j)
    (k : ∀ D H' vs, H D = none → Same H H' → H' D = some (.lst vs) → Paired (fun v j => r j H' v) vs ((List.range kvs.length).filter b) → Q (.ref D) H') : tLc (iKeys te) (gName i) tt el [i] σ H Q := by
  refine hn _ ⟨d, od, rfl, .inl ⟨kvs, hp, fun D hD => ?_⟩⟩
  refine ⟨fun j m H' => m = kvs.length - j ∧ j ≤ kvs.length ∧ Acc H D b r j H', ⟨kvs.length, by simp, Nat.zero_le _, acc0 hD⟩, ?_⟩
  rintro j m H' ⟨rfl, hj, acc⟩
  have ed := acc.1 _ _ hp
  by_cases hlt : j < kvs.length
  · refine .inr ⟨⟨ed, hlt⟩, Acc H D b r (j + 1), fun H2 h2 => ⟨kvs.length - (j + 1), by omega, rfl, hlt, h2⟩, ?_⟩
    rintro z H2 ⟨rfl, kk, v, hk, rfl⟩
    rw [hx j kk v hk]
    exact B.turn hD hlt acc
  · have ej : j = kvs.length := by omega
    subst ej
    exact .inl ⟨⟨ed, Nat.le_refl _⟩, k D H' _ hD acc.1 acc.2.choose_spec.1 acc.2.choose_spec.2⟩
theorem ev_neg {z : Int} (h : Ev te σ H (.int z)) : Ev (tUn (rU fun i => .int (-i)) te) σ H (.int (-z)) := fun Q q => h _ ⟨z, rfl, q⟩
theorem prd_z {vs : List V} {js : List Nat} {g : Nat → Int} (p : Paired (fun v j => v = V.int (g j)) vs js) : vs = (js.map g).map V.int := by
  induction p with
  | nil => rfl
  | cons r _ ih => rw [r, ih]; rfl
theorem lcZ_range {n : Nat} (g : Nat → Int) (hn : Ev te σ H (.int (n : Nat))) (h1 : n ≤ 1000) (he : ∀ j H', j < n → Same H H' → Ev el (σ.set i (some (.int (j : Nat)))) H' (.int (g j))) :
    Rs (tLc (iRng1 (tCons te tNil)) (gName i) tYes el [i]) σ H fun H' v => ∃ D, v = .ref D ∧ H' D = some (.lst (((List.range n).map g).map V.int)) := fun Q q => by
  refine LcB.range (b := fun _ => true) (r := fun j _ v => v = .int (g j)) ⟨fun j H' hj s => es_yes, fun j H' hj hb s => (he j H' hj s).rs rfl, fun _ _ _ _ _ h => h, sl1000 h1⟩ hn fun D H' vs hD s e p => q _ _ s ⟨D, rfl, ?_⟩
  rw [filter_true] at p
  rw [e, prd_z p]
theorem rs_tupZ {zs : List Int} (h : Rs te σ H fun H' v => ∃ D, v = .ref D ∧ H' D = some (.lst (zs.map V.int))) : Rs (tCB rTup7 (tCons te tNil)) σ H fun H' v => TuZ H' v zs := fun Q q => h _ fun v H' s p => by
  obtain ⟨a, rfl, ha⟩ := p
  exact ⟨a, _, rfl, .inl ⟨ha, fun l hl => q _ _ (s.trans (same_new hl)) ⟨l, rfl, upd_same⟩⟩⟩
end
theorem range_fm {α β : Type} (l : List α) (d : α) (p : α → Bool) (f : α → β) : ((List.range l.length).filter fun j => p (l.getD j d)).map (fun j => f (l.getD j d)) = (l.filter p).map f := by
  have e : l = (List.range l.length).map fun j => l.getD j d := by
    apply List.ext_getElem (by simp)
    intro j h1 h2
    rw [List.getElem_map, List.getElem_range, List.getD_eq_getElem?_getD, List.getElem?_eq_getElem h1]
    rfl
  conv => rhs; rw [e]
  rw [List.filter_map, List.map_map]
  rfl
theorem unlock {H H' : Hp} {d : Addr} {od : Obj} {u : HO} (h : H d = some u) (s : Same (upd H d (.frz od u)) H') : Same H (upd H' d u) := fun b o e => by
  by_cases z : b = d
  · subst z
    rw [h] at e
    cases e
    exact upd_same
  · rw [upd_ne z]
    exact s _ _ (by rw [upd_ne z]; exact e)
end W7
end
section
set_option Elab.async false
set_option linter.all false
set_option maxRecDepth 100000
set_option maxHeartbeats 1000000
namespace W7
open PySem PySem.Spec PyProof.Rows L2 RZ K37 K37E M7
theorem getD_at {α : Type} {l : List α} {j : Nat} {d : α} (h : j < l.length) : l[j]? = some (l.getD j d) := by
  rw [List.getElem?_eq_getElem h, List.getD_eq_getElem?_getD, List.getElem?_eq_getElem h]
  rfl
theorem ea_of {t : TA} {σ : L2.St} {H : Hp} {vs : List V} (h : Ea t σ H vs) : Ea t σ H vs := h
section
variable {P : Program} {w : World} {K : PySem.W.Frag} {mg : Str → Option Value} {base : Heap} {C : Addr}
theorem ev_row {ta tb : TE} {σ : L2.St} {H : Hp} {v : V} {R : List (List Nat)} {k : Nat} (ha : Ev ta σ H v) (h : Tt H v R) (hb : Ev tb σ H (.int (k : Nat))) (hk : k < R.length) : ∃ u, Ev (tOp ixT ta tb) σ H u ∧ Tn H u (rowAt R k) := by
  obtain ⟨p, vs, rfl, hp, pr⟩ := h
  obtain ⟨u, e, hu⟩ := prd_at pr (getD_at (d := []) hk)
  exact ⟨u, ev_ixTv ha hp hb e, hu⟩
def spMoeb (C : Addr) : Sp := fun vs H Q _ => ∃ (sv : V) (t : List (List Nat)), vs = [sv] ∧ SG C H sv t ∧ Sq t ∧ t.length ≤ 4 ∧ ∀ u mu H', Same H H' → TuZ H' u mu → MoebOk t.length (congs t) mu → Q u H'
theorem sc_moebius_numbers : FnScope ["s", "rows", "order", "numbers", "size", "i", "low", "k"] ["s"] (defScope s_moebius_numbers) := ⟨rfl, rfl, rfl, by decide +kernel, rfl, by decide +kernel, by decide +kernel⟩
theorem h_moebius_numbers (D : Dfn K mg "moebius_numbers" s_moebius_numbers) (T : Bl mg) (S : SemF K mg C) (H_congruences : Has P w K mg base "congruences" ["s"] 6 (spCongs C)) (H_class_count : Has P w K mg base "class_count" ["classes"] 1 spCount) (H_refines : Has P w K mg base "refines" ["a", "b"] 1 spRefines) : Has P w K mg base "moebius_numbers" ["s"] 7 (spMoeb (C)) := by
  refine D.has sc_moebius_numbers (fun _ _ _ _ _ _ us hl => match us, hl with | [_], _ => rfl) (fun vs H Q E h => by obtain ⟨sv, t, rfl, _⟩ := h; rfl) (fun f cdv A outer s H vs Q E hr h => ⟨_, (pss_cons (ps_set (i := 1) sc_moebius_numbers.nd rfl (Or.inr rfl) (pe_has H_congruences (hr.mono (by decide)) (pa_cons (pv 0) pa_nil)))
      (pss_cons (ps_set (i := 2) sc_moebius_numbers.nd rfl (Or.inl rfl) (pe_callB cr_sortedPO (by rfl) T.sorted (by decide +kernel) (pa_cons (pe_lc (own := [("i", 5)]) (g := gName 5) (by rfl) sc_moebius_numbers.nd (pi_range1 (by rfl) T.range (pa_cons (pe_callB len7 (by rfl) T.len (by decide +kernel) (pa_cons (pv 1) pa_nil)) pa_nil)) (blkOk_by (by kernel_rfl)) (fun _ _ _ _ _ => pg_name (i := 5) sc_moebius_numbers.nd rfl (Or.inl rfl)) (fun _ _ _ _ _ => pts_nil) (fun _ _ _ _ _ => (pe_tup (pa_cons (pe_un un_neg (pe_has H_class_count (hr.mono (by decide)) (pa_cons (pe_ix ix7T (pv 1) (pv 5) (fun _ _ => rfl)) pa_nil))) (pa_cons (pv 5) pa_nil))))) pa_nil)))
      (pss_cons (ps_set (i := 3) sc_moebius_numbers.nd rfl (Or.inr rfl) pe_dnewK)
      (pss_cons (ps_for PassesOwn.never (by rfl) (pi7L K (pv 2)) (pg7 (n := 2) K (by rfl) (pgs_cons (pg_name (i := 4) sc_moebius_numbers.nd rfl (Or.inl rfl)) (pgs_cons (pg_name (i := 5) sc_moebius_numbers.nd rfl (Or.inr rfl)) pgs_nil))) (pss_cons (ps_lock (ps_setLc (i := 6) (own := [("k", 7)]) (g := gName 7) (by rfl) sc_moebius_numbers.nd rfl rfl (sw_true rfl rfl rfl (by decide +kernel)) (pi_keys (pv 3)) (blkOk_by (by kernel_rfl)) (fun _ _ _ _ _ => pg_name (i := 7) sc_moebius_numbers.nd rfl (Or.inl rfl)) (fun _ _ _ _ _ => (pts_one (pt_val (pe_has H_refines (hr.mono (by decide)) (pa_cons (pe_ix ix7T (pv 1) (pv 7) (fun _ _ => rfl)) (pa_cons (pe_ix ix7T (pv 1) (pv 5) (fun _ _ => rfl)) pa_nil)))))) (fun _ _ _ _ _ => (pe_dget (hu_of hr) (pv 3) (pv 7) (fun _ _ => rfl)))))
      (pss_one (ps_dput (hu_of hr) (pv 3) (pv 5) (pe_ifExp (pt_cmpR op_eq (pv 4) (pe_un un_neg (pe_fldN S (pv 0))) (nomark _)) pe_int (pe_un un_neg (pe_callB (sum7 (by rfl)) (by rfl) T.sum (by decide +kernel) (pa_cons (pv 6) pa_nil)))) (by rfl)))))
      (pss_one (ps_ret (pe_callTy tup7 (by rfl) T.tuple (by decide +kernel) (pa_cons (pe_lc (own := [("i", 5)]) (g := gName 5) (by rfl) sc_moebius_numbers.nd (pi_range1 (by rfl) T.range (pa_cons (pe_callB len7 (by rfl) T.len (by decide +kernel) (pa_cons (pv 1) pa_nil)) pa_nil)) (blkOk_by (by kernel_rfl)) (fun _ _ _ _ _ => pg_name (i := 5) sc_moebius_numbers.nd rfl (Or.inl rfl)) (fun _ _ _ _ _ => pts_nil) (fun _ _ _ _ _ => (pe_dget (hu_of hr) (pv 3) (pv 5) (fun _ _ => rfl)))) pa_nil)))))))), ?_⟩)
  obtain ⟨sv, t, rfl, hs, Sqt, h4, q⟩ := h
  have few := congs_few h4
  have big : 1000000 < sizeLine := by decide
  refine sq_ (sets_ (rs_call (P := fun H' u => Tt H' u (congs t)) (ea_cons (ev_v rfl) ea_nil) fun Q q => ⟨sv, t, rfl, hs, Sqt, h4, fun u H' s h => q u H' s h⟩) fun rv H1 s1 hrv => ?_)
  have can : ∀ {k}, k < (congs t).length → Canon t.length (rowAt (congs t) k) := fun {k} hk => (mem_congs.mp (List.mem_of_getElem? (getD_at (d := []) hk))).canon
  -- the order of work
  refine sq_ (sets_ (rs_order (L := (congs t).length) (cc := fun i => (heads (rowAt (congs t) i)).length) fun Q q => ?_) fun ov H2 s2 ⟨oa, ovs, is, e2, hoa, pis, perm, ordc⟩ => ?_)
  · refine LcB.range (σ := [some sv, some rv, none, none, none, none, none, none]) (H := H1) (i := 5) (te := tCB rLen7 (tCons (tVar 1) tNil)) (n := (congs t).length) (b := fun _ => true) (r := fun j H' v => TuZ H' v [-((heads (rowAt (congs t) j)).length : Int), (j : Int)]) ⟨fun j H' hj s => es_yes, fun j H' hj hb s => ?_, fun _ _ _ _ f h => h.fx f, by omega⟩ (ev_lenTt (ev_v rfl) hrv) fun D H' vs hD s e p => q _ _ s ⟨D, vs, rfl, e, by rwa [filter_true] at p⟩
    obtain ⟨u, hu1, hu2⟩ := ev_row (tb := tVar 5) (σ := [some sv, some rv, none, none, none, some (.int (j : Nat)), none, none]) (ev_v (i := 1) rfl) (hrv.same s) (ev_v (v := .int (j : Nat)) rfl) hj
    have hc := can hj
    intro Q' q'
    refine rs_call (P := fun _ v => v = .int ((heads (rowAt (congs t) j)).length : Nat)) (ea_cons hu1 ea_nil) (fun Q q => ⟨u, _, rfl, hu2, by rw [hc.len]; omega, fun H' s => q _ H' s rfl⟩) _ fun w H3 s3 e3 => ?_
    subst e3
    refine ⟨_, rfl, ev_v rfl _ ⟨by show 2 ≤ sizeLine; omega, fun p hp => q' _ _ (s3.trans (same_new hp)) ⟨p, rfl, upd_same⟩⟩⟩
  subst e2
  have s12 := s1.trans s2
  -- the dict
  intro dd hdd0
  have hd0 : H dd = none := s12.free hdd0
  have s3 := s12.trans (same_new (o := .dK []) hdd0)
  have n_od : oa ≠ dd := ne_of_none hoa hdd0
  have inr : ∀ {k}, k ∈ is → k < (congs t).length := fun h => List.mem_range.mp (perm.mem_iff.mp h)
  have ndi : is.Nodup := perm.nodup_iff.mpr List.nodup_range
  have lis : is.length = (congs t).length := by rw [perm.length_eq, List.length_range]
  have hmm : procM (congs t) t.length [] = [] := rfl
  show tSeq _ _ _ _ _
  refine sq_ (forL_ (p := oa) (xs := ovs) (ev_v rfl) (by rw [upd_ne n_od]; exact hoa) (fun m σ H' => Same H H' ∧ Same H2 (upd H' dd (.dK [])) ∧ ∃ a b c d, σ = [some sv, some rv, some (.ref oa), some (.ref dd), a, b, c, d] ∧ H' dd = some (.dK ((procM (congs t) t.length (is.take m)).map kvi)))
    ⟨s3, ?_, none, none, none, none, rfl, upd_same⟩ (fun m σ H' h => ?_) (fun m x σ H' hx h => ?_) fun σ H' h => ?_)
  · rw [upd_upd]
    exact same_new hdd0
  · have := h.2.1 _ _ hoa
    rw [upd_ne n_od] at this
    exact this
  · obtain ⟨s4, s24, a, b, c, d, rfl, hdd⟩ := h
    obtain ⟨i, hi, hxi⟩ := prd_at' pis hx
    have fx24 : Fx H2 H' := fun b o f e => by
      have := s24 _ _ e
      by_cases z : b = dd
      · rw [z, hdd0] at e
        cases e
      · rw [upd_ne z] at this
        exact this
    have hiL := inr (List.mem_of_getElem? hi)
    obtain ⟨xa, rfl, hxa⟩ := hxi.fx fx24
    have hrv4 := hrv.fx ((fx_of s2).trans fx24)
    have hs4 := hs.same s4
    generalize hdone : procM (congs t) t.length (is.take m) = done at hdd
    have keys : done.map (·.1) = is.take m := by rw [← hdone, proc_keys]
    have ldone : done.length ≤ (congs t).length := by
      have := congrArg List.length keys
      rw [List.length_map, List.length_take] at this
      omega
    have dlt : ∀ {j}, j < done.length → (done.getD j (0, 0)).1 < (congs t).length := fun {j} h => by
      have h1 : (done.getD j (0, 0)).1 ∈ done.map (·.1) := List.mem_map.mpr ⟨_, List.mem_of_getElem? (getD_at h), rfl⟩
      rw [keys] at h1
      exact inr (List.mem_of_mem_take h1)
    refine tg2 rfl hxa ?_
    -- low
    refine sq_ ⟨dd, _, hdd, trivial, fun od => ?_⟩
    have s5 : Fx H' (upd H' dd (.frz od (.dK (done.map kvi)))) := fx_put hdd
    have hrv5 := hrv4.fx s5
    have hdd5 : upd H' dd (.frz od (.dK (done.map kvi))) dd = some (.frz od (.dK (done.map kvi))) := upd_same
    refine LcB.keysK (σ := [some sv, some rv, some (.ref oa), some (.ref dd), some (.int (-((heads (rowAt (congs t) i)).length : Int))), some (.int (i : Nat)), c, d]) (i := 7) (H := upd H' dd (.frz od (.dK (done.map kvi)))) (kvs := done.map kvi) (od := od) (d := dd) (y := fun j => .int ((done.getD j (0, 0)).1 : Nat)) (b := fun j => refB (rowAt (congs t) (done.getD j (0, 0)).1) (rowAt (congs t) i)) (r := fun j _ v => v = .int (done.getD j (0, 0)).2)
      ⟨fun j H6 hj s6 => ?_, fun j H6 hj hb s6 => ?_, fun _ _ _ _ _ h => h, by rw [List.length_map]; omega⟩ (ev_v rfl) hdd5 (fun j k v hk => ?_) fun D H6 vs hD s6 e6 p6 => ⟨s6 _ _ hdd5, ?_⟩
    · rw [List.length_map] at hj
      obtain ⟨u, hu1, hu2⟩ := ev_row (tb := tVar 7) (σ := [some sv, some rv, some (.ref oa), some (.ref dd), some (.int (-((heads (rowAt (congs t) i)).length : Int))), some (.int (i : Nat)), c, some (.int ((done.getD j (0, 0)).1 : Nat))]) (ev_v (i := 1) rfl) (hrv5.same s6) (ev_v (v := .int ((done.getD j (0, 0)).1 : Nat)) rfl) (dlt hj)
      obtain ⟨w', hw1, hw2⟩ := ev_row (tb := tVar 5) (σ := [some sv, some rv, some (.ref oa), some (.ref dd), some (.int (-((heads (rowAt (congs t) i)).length : Int))), some (.int (i : Nat)), c, some (.int ((done.getD j (0, 0)).1 : Nat))]) (ev_v (i := 1) rfl) (hrv5.same s6) (ev_v (v := .int (i : Nat)) rfl) hiL
      have c1 := can (dlt hj)
      have c2 := can hiL
      exact es_b (rs_call (ea_cons hu1 (ea_cons hw1 ea_nil)) fun Q q => ⟨u, w', _, _, rfl, hu2, hw2, by rw [c1.len, c2.len], fun x hx => by rw [c1.len] at hx ⊢; exact c1.lt hx, by rw [c1.len]; omega, fun H' s => q _ H' s rfl⟩)
    · rw [List.length_map] at hj
      have hm : (done.getD j (0, 0)).1 ∈ done.map (·.1) := List.mem_map.mpr ⟨_, List.mem_of_getElem? (getD_at hj), rfl⟩
      have ek : muOf done (done.getD j (0, 0)).1 = (done.getD j (0, 0)).2 := by
        have nd : (done.map (·.1)).Nodup := by rw [keys]; exact ndi.sublist (List.take_sublist _ _)
        have h1 := mu_self nd
        have h2 : (done.map (·.1))[j]? = some (done.getD j (0, 0)).1 := by rw [List.getElem?_map, getD_at hj]; rfl
        have h3 : ((done.map (·.1)).map fun k => (k, muOf done k))[j]? = some ((done.getD j (0, 0)).1, muOf done (done.getD j (0, 0)).1) := by rw [List.getElem?_map, h2]; rfl
        rw [← h1, getD_at (d := (0, 0)) hj] at h3
        have h4 := Option.some.inj h3
        rw [Prod.ext_iff] at h4
        exact h4.2.symm
      have ev := ev_dgetI (σ := [some sv, some rv, some (.ref oa), some (.ref dd), some (.int (-((heads (rowAt (congs t) i)).length : Int))), some (.int (i : Nat)), c, some (.int ((done.getD j (0, 0)).1 : Nat))]) (ev_v (i := 3) rfl) (ev_v (i := 7) rfl) (.inr ⟨od, s6 _ _ hdd5⟩) hm
      exact ev.rs (by rw [ek])
    · have hj := (List.getElem?_eq_some_iff.mp hk).1
      rw [List.length_map] at hj
      rw [List.getElem?_map, getD_at (d := (0, 0)) hj] at hk
      have e := Option.some.inj hk
      have e1 : k = Sum.inl ((done.getD j (0, 0)).1 : Int) := (congrArg Prod.fst e).symm
      rw [e1]
      rfl
    · -- numbers[i] = ..
      have nDd : D ≠ dd := fun z => by rw [z, hdd5] at hD; cases hD
      have low : vs = ((done.filter fun p => refB (rowAt (congs t) p.1) (rowAt (congs t) i)).map (·.2)).map V.int := by
        rw [prd_z p6, List.length_map]
        rw [range_fm done (0, 0) (fun p => refB (rowAt (congs t) p.1) (rowAt (congs t) i)) (·.2)]
      have sU := unlock hdd s6
      have eD : upd H6 dd (.dK (done.map kvi)) D = some (.lst (((done.filter fun p => refB (rowAt (congs t) p.1) (rowAt (congs t) i)).map (·.2)).map V.int)) := by rw [upd_ne nDd, e6, low]
      have edd : upd H6 dd (.dK (done.map kvi)) dd = some (.dK (done.map kvi)) := upd_same
      generalize upd H6 dd (.dK (done.map kvi)) = H7 at sU eD edd
      have nin : i ∉ done.map (·.1) := by
        rw [keys]
        intro h
        obtain ⟨k, hk⟩ := List.getElem?_of_mem h
        rw [List.getElem?_take] at hk
        by_cases hkm : k < m
        · rw [if_pos hkm] at hk
          obtain ⟨h1, h2⟩ := List.getElem?_eq_some_iff.mp hk
          obtain ⟨h3, h4⟩ := List.getElem?_eq_some_iff.mp hi
          have := (List.getElem_inj (h₀ := h1) (h₁ := h3) ndi).mp (h2.trans h4.symm)
          omega
        · rw [if_neg hkm] at hk
          cases hk
      have eqs : ∀ Q : VK, Q (.bl (decide ((heads (rowAt (congs t) i)).length = t.length))) H7 → Q (.bl (decide (V.int (-((heads (rowAt (congs t) i)).length : Int)) = V.int (-(t.length : Int))))) H7 := fun Q q => by
        have e : decide (V.int (-((heads (rowAt (congs t) i)).length : Int)) = V.int (-(t.length : Int))) = decide ((heads (rowAt (congs t) i)).length = t.length) := decide_eq_decide.mpr ⟨fun h => by injection h with h; omega, fun h => by rw [h]⟩
        rw [e]
        exact q
      refine dputI_ (z := valM (congs t) t.length done i) (ev_if (b := decide ((heads (rowAt (congs t) i)).length = t.length)) (et_t (ev_op (ev_v rfl) (ev_neg (ev_n (ev_v rfl) (hs4.same sU))) fun Q q => ⟨rfl, eqs Q q⟩)) (fun hb => ?_) fun hb => ?_) (ev_v rfl) (ev_v rfl) edd nin (by omega) ⟨s4.trans sU |> fun s => same_put s hd0, ?_, _, _, _, _, rfl, ?_⟩
      · unfold valM
        rw [if_pos (of_decide_eq_true hb)]
        exact ev_c
      · unfold valM
        rw [if_neg (of_decide_eq_false hb)]
        exact ev_neg (fun Q q => ev_v rfl _ ⟨D, _, rfl, eD, q⟩)
      · rw [upd_upd]
        intro b o e
        have nb : b ≠ dd := fun z => by rw [z, hdd0] at e; cases e
        have := s24 _ _ e
        rw [upd_ne nb] at this ⊢
        exact sU _ _ this
      · rw [upd_same, take_snoc hi, proc_snoc, hdone]
  · obtain ⟨s4, s24, a, b, c, d, rfl, hdd⟩ := h
    have lov := prd_len pis
    rw [lov, List.take_length] at hdd
    have fx24 : Fx H2 H' := fun b o f e => by
      have := s24 _ _ e
      by_cases z : b = dd
      · rw [z, hdd0] at e
        cases e
      · rw [upd_ne z] at this
        exact this
    have hrv4 := hrv.fx ((fx_of s2).trans fx24)
    have mo : MoebOk t.length (congs t) ((List.range (congs t).length).map (muOf (procM (congs t) t.length is))) := by
      refine moeb_ok (congs_nodup t) (fun r hr => (mem_congs.mp hr).canon) perm ?_
      have both : is.Pairwise fun a b => a ≠ b ∧ (heads (rowAt (congs t) b)).length ≤ (heads (rowAt (congs t) a)).length := List.pairwise_and_iff.mpr ⟨ndi, ordc⟩
      refine List.Pairwise.imp_of_mem (fun {a b} ha hb ⟨ne, hle⟩ hL => ?_) both
      have hal := inr ha
      have hbl := inr hb
      have rne : rowAt (congs t) b ≠ rowAt (congs t) a := fun e => by
        have h1 := getD_at (l := congs t) (d := []) hbl
        have h2 := getD_at (l := congs t) (d := []) hal
        obtain ⟨h3, h4⟩ := List.getElem?_eq_some_iff.mp h1
        obtain ⟨h5, h6⟩ := List.getElem?_eq_some_iff.mp h2
        exact ne ((List.getElem_inj (h₀ := h5) (h₁ := h3) (congs_nodup t)).mp (h6.trans (e.symm.trans h4.symm)))
      have := heads_lt (can hbl) (can hal) hL rne
      omega
    exact rets_ (rs_tupZ (lcZ_range (fun j => muOf (procM (congs t) t.length is) j) (ev_lenTt (ev_v rfl) hrv4) (by omega) fun j H5 hj s5 => ev_dgetI (ev_v rfl) (ev_v rfl) (.inl (s5 _ _ hdd)) (by rw [proc_keys]; exact perm.mem_iff.mpr (List.mem_range.mpr hj)))) fun u H5 s5 h5 => q u _ H5 (s4.trans s5) h5 mo
end
end W7
end
section
set_option linter.all false
set_option maxRecDepth 100000
namespace M7
structure CK (t : List (List Nat)) (K0 K : List Nat) (md : List Tr) : Prop where
  eq : K = K0 ++ md.map (·.1)
  made : MadeOk t K0 md
  nd : K.Nodup
  lt : ∀ k ∈ K, k < t.length
theorem ck_add {t : List (List Nat)} {K0 K : List Nat} {md : List Tr} {l r : Nat} (S : Sq t) (C : CK t K0 K md) (hl : l ∈ K) (hr : r ∈ K) (hp : mul t l r ∉ K) : CK t K0 (K ++ [mul t l r]) (md ++ [(mul t l r, l, r)]) := by
  have e := C.eq
  refine ⟨by rw [e]; simp, C.made.snoc rfl (e ▸ hl) (e ▸ hr) (e ▸ hp), List.nodup_append.mpr ⟨C.nd, List.nodup_cons.mpr ⟨by simp, List.nodup_nil⟩, fun a ha b hb e => ?_⟩, fun k hk => ?_⟩
  · rw [List.mem_singleton.mp hb] at e
    exact hp (e ▸ ha)
  · rcases List.mem_append.mp hk with q | q
    · exact C.lt k q
    · rw [List.mem_singleton.mp q]
      exact S.mul_lt (C.lt l hl) (C.lt r hr)
theorem ck_le {t : List (List Nat)} {K0 K : List Nat} {md : List Tr} (C : CK t K0 K md) : K.length ≤ t.length := by
  have := List.Nodup.length_le_of_subset C.nd fun k hk => List.mem_range.mpr (C.lt k hk)
  rwa [List.length_range] at this
theorem at_app {K L : List Nat} {a : Nat} (h : a < K.length) : at' (K ++ L) a = at' K a := by
  unfold at'
  rw [List.getD_eq_getElem?_getD, List.getElem?_append_left h, List.getD_eq_getElem?_getD]
def Clo (t : List (List Nat)) (K : List Nat) (i j : Nat) : Prop := ∀ a b, (a < i ∧ b ≤ a) ∨ (a = i ∧ b < j) → mul t (at' K a) (at' K b) ∈ K ∧ mul t (at' K b) (at' K a) ∈ K
theorem clo_app {t : List (List Nat)} {K L : List Nat} {i j : Nat} (h : Clo t K i j) (hi : i < K.length) (hj : j ≤ i + 1) : Clo t (K ++ L) i j := fun a b q => by
  have ha : a < K.length := by omega
  have hb : b < K.length := by omega
  rw [at_app ha, at_app hb]
  have := h a b q
  exact ⟨List.mem_append_left _ this.1, List.mem_append_left _ this.2⟩
theorem clo_step {t : List (List Nat)} {K : List Nat} {i j : Nat} (h : Clo t K i j) (h1 : mul t (at' K i) (at' K j) ∈ K) (h2 : mul t (at' K j) (at' K i) ∈ K) : Clo t K i (j + 1) := fun a b q => by
  by_cases e : a = i ∧ b = j
  · rw [e.1, e.2]
    exact ⟨h1, h2⟩
  · exact h a b (by omega)
theorem clo_next {t : List (List Nat)} {K : List Nat} {i : Nat} (h : Clo t K i (i + 1)) : Clo t K (i + 1) 0 := fun a b q => h a b (by omega)
theorem clo_end {t : List (List Nat)} {K : List Nat} (h : Clo t K K.length 0) : ∀ l ∈ K, ∀ r ∈ K, mul t l r ∈ K := fun l hl r hr => by
  obtain ⟨a, ha, rfl⟩ := mem_at hl
  obtain ⟨b, hb, rfl⟩ := mem_at hr
  rcases Nat.le_total b a with q | q
  · exact (h a b (by omega)).1
  · exact (h b a (by omega)).2
end M7
end
section
set_option Elab.async false
set_option linter.all false
set_option maxRecDepth 100000
set_option maxHeartbeats 1000000
namespace W7
open PySem PySem.Spec PyProof.Rows L2 RZ K37 K37E M7
def Tr3 (H : Hp) (v : V) (m : Tr) : Prop := Tn H v [m.1, m.2.1, m.2.2]
theorem tr3_fx {H H' : Hp} {vs : List V} {md : List Tr} (h : Paired (Tr3 H) vs md) (f : Fx H H') : Paired (Tr3 H') vs md := prd_imp h fun _ _ q => Tn.fx q f
/-- all but l stands -/
def But (l : Addr) (H H' : Hp) : Prop := ∀ b o, b ≠ l → H b = some o → H' b = some o
theorem But.fx {l : Addr} {H H' : Hp} (h : But l H H') {xs : List V} (e : H l = some (.lst xs)) : Fx H H' := fun b o f hb => h b o (fun z => by
  rw [z, e] at hb
  cases hb
  cases f) hb
theorem But.same {l : Addr} {H H' H2 : Hp} (h : But l H H') (s : Same H' H2) : But l H H2 := fun b o n e => s b o (h b o n e)
theorem But.put {l : Addr} {H H' : Hp} {o : HO} (h : But l H H') : But l H (upd H' l o) := fun b u n e => by
  rw [upd_ne n]
  exact h b u n e
theorem But.new {l m : Addr} {H H' : Hp} {o : HO} (h : But l H H') (hm : H m = none) : But l H (upd H' m o) := fun b u n e => by
  rw [upd_ne (ne_of_none e hm)]
  exact h b u n e
section
variable {nx bk ct : L2.St → Hp → Prop} {rt : VK} {σ : L2.St} {H : Hp} {te ti : TE} {K : PySem.W.Frag}
theorem rs_slTo {p : Addr} {xs : List V} {k : Nat} (h : Ev te σ H (.ref p)) (hp : H p = some (.lst xs)) (hi : Ev ti σ H (.int (k : Nat))) : Rs (tSl rSl7 te tNoPart (tPart ti)) σ H fun H' v => ∃ l, v = .ref l ∧ H l = none ∧ H' l = some (.lst (xs.take k)) := fun Q q => h _ (hi _ ⟨_, rfl, p, xs, rfl, hp, fun l hl => q _ _ (same_new hl) ⟨l, rfl, hl, by
  rw [upd_same]
  unfold cutV
  rw [HT.sIx_none, HT.sIx_nat, List.drop_zero, Nat.sub_zero]
  congr 2
  rcases Nat.le_total k xs.length with e | e
  · rw [Nat.min_eq_left e]
  · rw [Nat.min_eq_right e, List.take_length, List.take_of_length_le e]⟩⟩)
theorem rs_listS {xs : List V} {P : Hp → V → Prop} (h : Rs te σ H P) (k : ∀ H' v, P H' v → ∃ l, v = .ref l ∧ H' l = some (.lst xs)) : Rs (tCB rList7 (tCons te tNil)) σ H fun H' v => ∃ l, v = .ref l ∧ H l = none ∧ H' l = some (.lst xs) := fun Q q => h _ fun v H1 s1 p1 => by
  obtain ⟨a, rfl, ha⟩ := k _ _ p1
  exact ⟨a, xs, rfl, .inl ha, fun l hl => q _ _ (s1.trans (same_new hl)) ⟨l, rfl, s1.free hl, upd_same⟩⟩
theorem forTs_ {g : TG} {tb : TS} {P : Hp → V → Prop} (hn : Rs te σ H P) (k : ∀ v H1, Same H H1 → P H1 v → tFor (iTup K (tC v)) g tb ⟨nx, rt, bk, ct⟩ σ H1) : tFor (iTup K te) g tb ⟨nx, rt, bk, ct⟩ σ H := hn _ k
theorem rs_tupR {p : Addr} {xs : List V} (h : Ev te σ H (.ref p)) (hp : H p = some (.lst xs)) : Rs (tCB rTup7 (tCons te tNil)) σ H fun H' v => ∃ l, v = .ref l ∧ H l = none ∧ H' l = some (.tup xs) := fun Q q => h _ ⟨p, xs, rfl, .inl ⟨hp, fun l hl => q _ _ (same_new hl) ⟨l, rfl, hl, upd_same⟩⟩⟩
theorem rs_three {a b d : TE} {x : V} {P P' : Hp → V → Prop} (ha : Ev a σ H x) (hb : Rs b σ H P) (hd : ∀ H', Same H H' → Rs d σ H' P') (f1 : ∀ H1 H2 v, Fx H1 H2 → P H1 v → P H2 v) (f2 : ∀ H1 H2 v, Fx H1 H2 → P' H1 v → P' H2 v) : Rs (tTup (tCons a (tCons b (tCons d tNil)))) σ H fun H' v => ∃ p u w, v = .ref p ∧ H' p = some (.tup [x, u, w]) ∧ P H' u ∧ P' H' w := fun Q q => ha _ (hb _ fun u H1 s1 p1 => hd H1 s1 _ fun w H2 s2 p2 => ⟨by show 3 ≤ sizeLine; decide, fun p hp => q _ _ ((s1.trans s2).trans (same_new hp)) ⟨p, u, w, rfl, upd_same, f1 _ _ _ ((fx_of s2).trans (fx_new hp)) p1, f2 _ _ _ (fx_new hp) p2⟩⟩)
theorem callg_ {sp : Sp} {t : TA} {vs : List V} {i : Nat} (h : Ea t σ H vs) (k : sp vs H (fun v H' => nx (σ.set i (some v)) H') E0) : tAsg (tCall sp [] E0 t) (gName i) ⟨nx, rt, bk, ct⟩ σ H := h _ (by
  rw [List.append_nil]
  exact k)
theorem aug_ {i : Nat} {a b : Int} (ha : σ[i]? = some (some (.int a))) (h : Ev te σ H (.int b)) (k : nx (σ.set i (some (.int (a + b)))) H) : tAug i te (ipI fun i j => i + j) ⟨nx, rt, bk, ct⟩ σ H := ⟨_, ha, h _ ⟨a, b, rfl, rfl, k⟩⟩
theorem et_ni7 {ta tb : TE} {x y : V} {n : Nat} {ns : List Nat} (ha : Ev ta σ H (.int (n : Nat))) (hb : Ev tb σ H y) (h : Ln H y ns) : Et (tTest (tOp rNi7 ta tb)) σ H (decide (n ∉ ns)) := et_t (ev_op ha hb fun Q q => ⟨n, ns, rfl, h, q⟩)
theorem rs_trip {a b d : TE} {x y z : Nat} (ha : Ev a σ H (.int (x : Nat))) (hb : Ev b σ H (.int (y : Nat))) (hd : Ev d σ H (.int (z : Nat))) : Rs (tTup (tCons a (tCons b (tCons d tNil)))) σ H fun H' v => Tr3 H' v (x, y, z) := (rs_tup3 ha hb hd).imp fun H' v s ⟨p, e, _, h⟩ => ⟨p, e, h⟩
theorem rs_two {a b : TE} {P P' : Hp → V → Prop} (ha : Rs a σ H P) (hb : ∀ H', Same H H' → Rs b σ H' P') (f1 : ∀ H1 H2 v, Fx H1 H2 → P H1 v → P H2 v) (f2 : ∀ H1 H2 v, Fx H1 H2 → P' H1 v → P' H2 v) : Rs (tTup (tCons a (tCons b tNil))) σ H fun H' v => ∃ p u w, v = .ref p ∧ H p = none ∧ H' p = some (.tup [u, w]) ∧ P H' u ∧ P' H' w := fun Q q => ha _ fun u H1 s1 p1 => hb H1 s1 _ fun w H2 s2 p2 => ⟨by show 2 ≤ sizeLine; decide, fun p hp => q _ _ ((s1.trans s2).trans (same_new hp)) ⟨p, u, w, rfl, (s1.trans s2).free hp, upd_same, f1 _ _ _ ((fx_of s2).trans (fx_new hp)) p1, f2 _ _ _ (fx_new hp) p2⟩⟩
end
/-- what close keeps -/
def CSt (H : Hp) (kl ml : Addr) (t : List (List Nat)) (K0 : List Nat) (K : List Nat) (md : List Tr) (H' : Hp) : Prop := But kl H H' ∧ H' kl = some (.lst (nv K)) ∧ (∃ ms, H' ml = some (.lst ms) ∧ Paired (Tr3 H') ms md) ∧ CK t K0 K md
theorem CSt.same {H H1 H2 : Hp} {kl ml : Addr} {t : List (List Nat)} {K0 K : List Nat} {md : List Tr} (h : CSt H kl ml t K0 K md H1) (s : Same H1 H2) : CSt H kl ml t K0 K md H2 := by
  obtain ⟨a, b, ⟨ms, c, d⟩, e⟩ := h
  exact ⟨a.same s, s _ _ b, ⟨ms, s _ _ c, tr3_fx d (fx_of s)⟩, e⟩
section
variable {P : Program} {w : World} {K : PySem.W.Frag} {mg : Str → Option Value} {base : Heap} {C : Addr}
def spClose (C : Addr) : Sp := fun vs H Q _ => ∃ (sv : V) (kl : Addr) (t : List (List Nat)) (K0 : List Nat), vs = [sv, .ref kl] ∧ SG C H sv t ∧ Sq t ∧ H kl = some (.lst (nv K0)) ∧ K0.Nodup ∧ (∀ k ∈ K0, k < t.length) ∧
  ∀ ml K1 md H', H ml = none → CSt H kl ml t K0 K1 md H' → (∀ l ∈ K1, ∀ r ∈ K1, mul t l r ∈ K1) → Q (.ref ml) H'
theorem sc_close : FnScope ["s", "known", "made", "at", "y", "left", "right", "product"] ["s", "known"] (defScope s_close) := ⟨rfl, rfl, rfl, by decide +kernel, rfl, by decide +kernel, by decide +kernel⟩
theorem h_close (D : Dfn K mg "close" s_close) (T : Bl mg) (S : SemF K mg C) : Has P w K mg base "close" ["s", "known"] 1 (spClose (C)) := by
  refine D.has sc_close (fun _ _ _ _ _ _ us hl => match us, hl with | [_, _], _ => rfl) (fun vs H Q E h => by obtain ⟨sv, kl, t, K0, rfl, _⟩ := h; rfl) (fun f cdv A outer s H vs Q E hr h => ⟨_, (pss_cons (ps_set (i := 2) sc_close.nd rfl (Or.inl rfl) (pe_lst pa_nil))
      (pss_cons (ps_set (i := 3) sc_close.nd rfl (Or.inl rfl) pe_int)
      (pss_cons (ps_while PassesOwn.never (pt_cmpR op_lt (pv 3) (pe_callB len7 (by rfl) T.len (by decide +kernel) (pa_cons (pv 1) pa_nil)) (nomark _)) (pss_cons (ps_for PassesOwn.never (by rfl) (pi7L K (pe_callTy list7 (by rfl) T.list (by decide +kernel) (pa_cons (pe_slice sl7 (pv 1) po_none (po_some (pe_op op_add (pv 3) pe_int))) pa_nil))) (pg_name (i := 4) sc_close.nd rfl (Or.inl rfl)) (pss_one (ps_for PassesOwn.never (by rfl) (pi7T K (pe_tup (pa_cons (pe_tup (pa_cons (pe_ix ix7L (pv 1) (pv 3) (fun _ _ => rfl)) (pa_cons (pv 4) pa_nil))) (pa_cons (pe_tup (pa_cons (pv 4) (pa_cons (pe_ix ix7L (pv 1) (pv 3) (fun _ _ => rfl)) pa_nil))) pa_nil)))) (pg7 (n := 2) K (by rfl) (pgs_cons (pg_name (i := 5) sc_close.nd rfl (Or.inl rfl)) (pgs_cons (pg_name (i := 6) sc_close.nd rfl (Or.inl rfl)) pgs_nil))) (pss_cons (ps_set (i := 7) sc_close.nd rfl (Or.inl rfl) (pe_ix ix7T (pe_ix ix7T (pe_fldT S (pv 0)) (pv 5) (fun _ _ => rfl)) (pv 6) (fun _ _ => rfl)))
      (pss_one (ps_if (pt_cmpR ni7 (pv 7) (pv 1) (by rfl)) (pss_cons (ps_expr (pe_l7 PySem.F.slot_list_append PySem.F.type_list_append app7 (pv 1) (pa_cons (pv 7) pa_nil)))
      (pss_one (ps_expr (pe_l7 PySem.F.slot_list_append PySem.F.type_list_append app7 (pv 2) (pa_cons (pe_tup (pa_cons (pv 7) (pa_cons (pv 5) (pa_cons (pv 6) pa_nil)))) pa_nil))))) pss_nil))))))
      (pss_one (ps_aug (i := 3) sc_close.nd rfl (Or.inl rfl) pe_int ip_add))))
      (pss_one (ps_ret (pv 2)))))), ?_⟩)
  obtain ⟨sv, kl, t, K0, rfl, hs, Sqt, hkl, nd0, lt0, q⟩ := h
  have hle := Sqt.le
  have big : 1000000 < sizeLine := by decide
  refine sq_ (sets_ rs_lst0 fun v1 H1 s1 ⟨ml, e1, hml0, hml⟩ => ?_)
  subst e1
  have nmk : ml ≠ kl := fun z => by rw [z, hkl] at hml0; cases hml0
  have hsF : ∀ {H'}, But kl H H' → SG C H' sv t := fun b => hs.fx (b.fx hkl)
  refine sq_ (set_ ev_c (sq_ (while_ (fun m σ H' => ∃ at7 K md a b c d, σ = [some sv, some (.ref kl), some (.ref ml), some (.int (at7 : Nat)), a, b, c, d] ∧ CSt H kl ml t K0 K md H' ∧ Clo t K at7 0 ∧ at7 ≤ K.length ∧ m = t.length + 1 - at7) (t.length + 1) ⟨0, K0, [], none, none, none, none, rfl, ⟨fun b o _ e => s1 b o e, s1 _ _ hkl, ⟨[], hml, .nil⟩, by simp, trivial, nd0, lt0⟩, fun a b q => (by omega), Nat.zero_le _, rfl⟩ fun m σ H' h => ?_)))
  obtain ⟨at7, Kc, md, a, b, c, d, rfl, cs, cl, hat, em⟩ := h
  obtain ⟨bu, hk, _, ck⟩ := id cs
  have hlK := ck_le ck
  refine ⟨_, et_t (ev_ltN (ev_v rfl) (ev_lenL (ev_v rfl) hk)), fun hb => ?_, fun hb => ?_⟩
  · have hlt := of_decide_eq_true hb
    rw [nv_len] at hlt
    refine sq_ (forLs_ (rs_listS (xs := (nv Kc).take (at7 + 1)) (rs_slTo (ev_v rfl) hk (ev_addN (ev_v rfl) (ev_c (v := .int (1 : Nat))))) fun H' v ⟨l, e, _, h⟩ => ⟨l, e, h⟩) fun v2 H2 s2 ⟨cp, e2, hcp0, hcp⟩ => ?_)
    subst e2
    have ncp : cp ≠ kl := fun z => by rw [z, hk] at hcp0; cases hcp0
    have ncm : cp ≠ ml := fun z => by
      obtain ⟨_, _, ⟨ms, hms, _⟩, _⟩ := cs
      rw [z, hms] at hcp0
      cases hcp0
    have lxs : ((nv Kc).take (at7 + 1)).length = at7 + 1 := by rw [List.length_take, nv_len]; omega
    refine forL_ (p := cp) (xs := (nv Kc).take (at7 + 1)) ev_c hcp (fun j σ H' => ∃ L md a b c d, σ = [some sv, some (.ref kl), some (.ref ml), some (.int (at7 : Nat)), a, b, c, d] ∧ CSt H kl ml t K0 (Kc ++ L) md H' ∧ Clo t (Kc ++ L) at7 j ∧ H' cp = some (.lst ((nv Kc).take (at7 + 1)))) ⟨[], md, a, b, c, d, rfl, by rw [List.append_nil]; exact cs.same s2, by rw [List.append_nil]; exact cl, hcp⟩ (fun j σ H' h => ?_) (fun j x σ H' hx h => ?_) fun σ H' h => ?_
    · obtain ⟨_, _, _, _, _, _, _, _, _, h⟩ := h
      exact h
    · obtain ⟨L, md, a, b, c, d, rfl, cs3, cl3, hcp3⟩ := h
      have hj : j < at7 + 1 := by
        have := (List.getElem?_eq_some_iff.mp hx).1
        omega
      rw [List.getElem?_take, if_pos hj, nv_at (by omega)] at hx
      cases hx
      obtain ⟨bu3, hk3, _, ck3⟩ := id cs3
      have hjl : j < Kc.length := by omega
      have hxm : at' Kc at7 ∈ Kc ++ L := List.mem_append_left _ (at_mem hlt)
      have hym : at' Kc j ∈ Kc ++ L := List.mem_append_left _ (at_mem hjl)
      have evx : Ev (tOp ixL (tVar 1) (tVar 3)) [some sv, some (.ref kl), some (.ref ml), some (.int (at7 : Nat)), some (.int (at' Kc j : Nat)), b, c, d] H' (.int (at' Kc at7 : Nat)) := ev_int (ev_ixL (ev_v rfl) ⟨kl, rfl, hk3⟩ (ev_v rfl) (by rw [List.length_append]; omega)) (at_app hlt)
      have evx2 : ∀ {H4}, Same H' H4 → Ev (tOp ixL (tVar 1) (tVar 3)) [some sv, some (.ref kl), some (.ref ml), some (.int (at7 : Nat)), some (.int (at' Kc j : Nat)), b, c, d] H4 (.int (at' Kc at7 : Nat)) := fun s => ev_int (ev_ixL (ev_v rfl) ⟨kl, rfl, s _ _ hk3⟩ (ev_v rfl) (by rw [List.length_append]; omega)) (at_app hlt)
      refine forTs_ (rs_two (P := fun H' u => Pr H' u (at' Kc at7, at' Kc j)) (P' := fun H' u => Pr H' u (at' Kc j, at' Kc at7)) (rs_pair evx (ev_v rfl)) (fun H4 s4 => rs_pair (ev_v rfl) (evx2 s4)) (fun _ _ _ f h => h.fx f) fun _ _ _ f h => h.fx f) fun v4 H4 s4 ⟨tp, u, w', e4, _, htp, hu, hw⟩ => ?_
      subst e4
      refine forT_ (p := tp) (xs := [u, w']) ev_c htp (fun k σ H' => ∃ L md b c d, σ = [some sv, some (.ref kl), some (.ref ml), some (.int (at7 : Nat)), some (.int (at' Kc j : Nat)), b, c, d] ∧ CSt H kl ml t K0 (Kc ++ L) md H' ∧ Clo t (Kc ++ L) at7 j ∧ H' cp = some (.lst ((nv Kc).take (at7 + 1))) ∧ Fx H4 H' ∧ (1 ≤ k → mul t (at' Kc at7) (at' Kc j) ∈ Kc ++ L) ∧ (2 ≤ k → mul t (at' Kc j) (at' Kc at7) ∈ Kc ++ L))
        ⟨L, md, b, c, d, rfl, cs3.same s4, cl3, s4 _ _ hcp3, Fx.refl _, fun z => (by omega), fun z => (by omega)⟩ (fun k σ H' h => ?_) (fun k z σ H' hz h => ?_) fun σ H' h => ?_
      · obtain ⟨_, _, _, _, _, _, _, _, _, f, _⟩ := h
        exact f _ _ rfl htp
      · obtain ⟨L, md, b, c, d, rfl, cs5, cl5, hcp5, f5, d1, d2⟩ := h
        have hxm : at' Kc at7 ∈ Kc ++ L := List.mem_append_left _ (at_mem hlt)
        have hym : at' Kc j ∈ Kc ++ L := List.mem_append_left _ (at_mem hjl)
        obtain ⟨bu5, hk5, ⟨ms, hms5, pms5⟩, ck5⟩ := id cs5
        have hk2 : k = 0 ∨ k = 1 := by
          have := (List.getElem?_eq_some_iff.mp hz).1
          have : k < 2 := this
          omega
        obtain ⟨l, r, hlm, hrm, hp, cse⟩ : ∃ l r, l ∈ Kc ++ L ∧ r ∈ Kc ++ L ∧ Pr H' z (l, r) ∧ ((k = 0 ∧ l = at' Kc at7 ∧ r = at' Kc j) ∨ (k = 1 ∧ l = at' Kc j ∧ r = at' Kc at7)) := by
          rcases hk2 with rfl | rfl
          · cases hz
            exact ⟨_, _, hxm, hym, hu.fx f5, .inl ⟨rfl, rfl, rfl⟩⟩
          · cases hz
            exact ⟨_, _, hym, hxm, hw.fx f5, .inr ⟨rfl, rfl, rfl⟩⟩
        have hl := ck5.lt l hlm
        have hr' := ck5.lt r hrm
        refine tg2p hp ?_
        refine sq_ (set_ (ev_tab Sqt (ev_v rfl) (hsF bu5) (ev_v rfl) (ev_v rfl) hl hr') ?_)
        refine ifn_ (et_ni7 (x := .non) (ev_v rfl) (ev_v rfl) ⟨kl, rfl, hk5⟩) (fun hb => ?_) fun hb => ?_
        · have nin := of_decide_eq_true hb
          have ck6 := ck_add Sqt ck5 hlm hrm nin
          have l6 := ck_le ck6
          rw [List.length_append, List.length_singleton] at l6
          have lmd : ms.length ≤ t.length := by
            have e := congrArg List.length ck5.eq
            rw [List.length_append (as := K0), List.length_map] at e
            have := prd_len pms5
            omega
          refine sq_ (app_ (l := kl) (xs := nv (Kc ++ L)) (P := fun _ v => v = .int (mul t l r : Nat)) (ev_v rfl) hk5 ((ev_v rfl).rs rfl) (by rw [nv_len]; omega) fun v6 H6 s6 e6 => ?_)
          subst e6
          have hms6 : upd H6 kl (.lst (nv (Kc ++ L) ++ [V.int (mul t l r : Nat)])) ml = some (.lst ms) := by rw [upd_ne nmk]; exact s6 _ _ hms5
          have fx6 := (fx_of s6).trans (fx_put (o := .lst (nv (Kc ++ L) ++ [V.int (mul t l r : Nat)])) (s6 _ _ hk5))
          refine app_ (l := ml) (xs := ms) (P := fun H' v => Tr3 H' v (mul t l r, l, r)) (ev_v rfl) hms6 (rs_trip (ev_v rfl) (ev_v rfl) (ev_v rfl)) (by omega) fun v7 H7 s7 h7 => ?_
          have fx7 := (fx_of s7).trans (fx_put (o := .lst (ms ++ [v7])) (s7 _ _ hms6))
          have ea : (Kc ++ L) ++ [mul t l r] = Kc ++ (L ++ [mul t l r]) := List.append_assoc ..
          have mem : mul t l r ∈ Kc ++ (L ++ [mul t l r]) := List.mem_append_right _ (List.mem_append_right _ (List.mem_singleton.mpr rfl))
          have up : ∀ {x}, x ∈ Kc ++ L → x ∈ Kc ++ (L ++ [mul t l r]) := fun h => ea ▸ List.mem_append_left _ h
          refine ⟨L ++ [mul t l r], md ++ [(mul t l r, l, r)], _, _, _, rfl, ⟨((bu5.same s6).put.same s7).new hml0, ?_, ⟨_, upd_same, prd_app (tr3_fx pms5 (fx6.trans fx7)) (prd_one (Tn.fx h7 (fx_put (s7 _ _ hms6))))⟩, ea ▸ ck6⟩, ea ▸ clo_app cl5 (by rw [List.length_append]; omega) (by omega), ?_, f5.trans (fx6.trans fx7), fun z => ?_, fun z => ?_⟩
          · rw [upd_ne (fun z => nmk z.symm), ← ea, nv_append]
            exact s7 _ _ upd_same
          · rw [upd_ne ncm]
            refine s7 _ _ ?_
            rw [upd_ne ncp]
            exact s6 _ _ hcp5
          · rcases cse with ⟨rfl, rfl, rfl⟩ | ⟨rfl, rfl, rfl⟩
            · exact mem
            · exact up (d1 (by omega))
          · rcases cse with ⟨rfl, rfl, rfl⟩ | ⟨rfl, rfl, rfl⟩
            · omega
            · exact mem
        · have inn : mul t l r ∈ Kc ++ L := Classical.byContradiction fun z => of_decide_eq_false hb z
          refine ⟨L, md, _, _, _, rfl, cs5, cl5, hcp5, f5, fun z => ?_, fun z => ?_⟩
          · rcases cse with ⟨rfl, rfl, rfl⟩ | ⟨rfl, rfl, rfl⟩
            · exact inn
            · exact d1 (by omega)
          · rcases cse with ⟨rfl, rfl, rfl⟩ | ⟨rfl, rfl, rfl⟩
            · omega
            · exact inn
      · obtain ⟨L, md, b, c, d, rfl, cs5, cl5, hcp5, f5, d1, d2⟩ := h
        refine ⟨L, md, _, _, _, _, rfl, cs5, clo_step cl5 ?_ ?_, hcp5⟩
        · rw [at_app hlt, at_app hjl]
          exact d1 (by show 1 ≤ 2; omega)
        · rw [at_app hlt, at_app hjl]
          exact d2 (by show 2 ≤ 2; omega)
    · obtain ⟨L, md, a, b, c, d, rfl, cs3, cl3, hcp3⟩ := h
      rw [lxs] at cl3
      exact aug_ (a := at7) (b := 1) rfl ev_c ⟨t.length + 1 - (at7 + 1), by omega, at7 + 1, Kc ++ L, md, _, _, _, _, rfl, cs3, clo_next cl3, by rw [List.length_append]; omega, rfl⟩
  · have hge := of_decide_eq_false hb
    rw [nv_len] at hge
    have e : at7 = Kc.length := by omega
    subst e
    exact ret_ (ev_v rfl) (q ml Kc md H' hml0 cs (clo_end cl))
/-! steps -/
def TrT (H : Hp) (v : V) (md : List Tr) : Prop := ∃ a vs, v = .ref a ∧ H a = some (.tup vs) ∧ Paired (Tr3 H) vs md
theorem TrT.fx {H H' : Hp} {v : V} {md : List Tr} (h : TrT H v md) (f : Fx H H') : TrT H' v md := let ⟨a, vs, e, q, p⟩ := h; ⟨a, vs, e, f _ _ rfl q, tr3_fx p f⟩
def StR (H : Hp) (v : V) (st : M7.Step) : Prop := ∃ a kv mv, v = .ref a ∧ H a = some (.tup [.int (st.1 : Nat), kv, mv]) ∧ Tn H kv st.2.1 ∧ TrT H mv st.2.2
theorem StR.fx {H H' : Hp} {v : V} {st : M7.Step} (h : StR H v st) (f : Fx H H') : StR H' v st := let ⟨a, kv, mv, e, q, h1, h2⟩ := h; ⟨a, kv, mv, e, f _ _ rfl q, h1.fx f, h2.fx f⟩
theorem strs_fx {H H' : Hp} {vs : List V} {sts : List M7.Step} (h : Paired (StR H) vs sts) (f : Fx H H') : Paired (StR H') vs sts := prd_imp h fun _ _ q => q.fx f
def PreOk (t : List (List Nat)) : List Nat → List M7.Step → Prop
  | _, [] => True
  | K0, st :: rest => StepOk t K0 st ∧ PreOk t st.2.1 rest
def endK : List Nat → List M7.Step → List Nat
  | K0, [] => K0
  | _, st :: rest => endK st.2.1 rest
theorem steps_snoc {t : List (List Nat)} : ∀ {sts : List M7.Step} {K0 : List Nat} {st : M7.Step}, (∀ n : Nat, True) → PreOk t K0 sts → StepOk t (endK K0 sts) st → PreOk t K0 (sts ++ [st]) := by
  intro sts
  induction sts with
  | nil => intro K0 st _ _ h; exact ⟨h, trivial⟩
  | cons s sts ih => intro K0 st n h h2; exact ⟨h.1, ih n h.2 h2⟩
theorem steps_end {t : List (List Nat)} : ∀ {sts : List M7.Step} {K0 : List Nat}, PreOk t K0 sts → (∀ x, x < t.length → x ∈ endK K0 sts) → StepsOk t K0 sts := by
  intro sts
  induction sts with
  | nil => intro K0 _ h; exact h
  | cons s sts ih => intro K0 h h2; exact ⟨h.1, ih h.2 h2⟩
theorem endK_snoc : ∀ {sts : List M7.Step} {K0 : List Nat} {st : M7.Step}, endK K0 (sts ++ [st]) = st.2.1 := by
  intro sts
  induction sts with
  | nil => intro K0 st; rfl
  | cons s sts ih => intro K0 st; exact ih
def spClosing (C : Addr) : Sp := fun vs H Q _ => ∃ (sv : V) (t : List (List Nat)), vs = [sv] ∧ SG C H sv t ∧ Sq t ∧ ∀ l us sts H', Same H H' → H l = none → H' l = some (.lst us) → Paired (StR H') us sts → StepsOk t [] sts → sts.length ≤ t.length → Q (.ref l) H'
theorem sc_closing : FnScope ["s", "known", "found", "x", "made"] ["s"] (defScope s_closing) := ⟨rfl, rfl, rfl, by decide +kernel, rfl, by decide +kernel, by decide +kernel⟩
theorem h_closing (D : Dfn K mg "closing" s_closing) (T : Bl mg) (S : SemF K mg C) (H_close : Has P w K mg base "close" ["s", "known"] 1 (spClose C)) : Has P w K mg base "closing" ["s"] 2 (spClosing (C)) := by
  refine D.has sc_closing (fun _ _ _ _ _ _ us hl => match us, hl with | [_], _ => rfl) (fun vs H Q E h => by obtain ⟨sv, t, rfl, _⟩ := h; rfl) (fun f cdv A outer s H vs Q E hr h => ⟨_, (pss_cons (ps_set (i := 1) sc_closing.nd rfl (Or.inl rfl) (pe_lst pa_nil))
      (pss_cons (ps_set (i := 2) sc_closing.nd rfl (Or.inl rfl) (pe_lst pa_nil))
      (pss_cons (ps_for PassesOwn.never (by rfl) (pi_range1 (by rfl) T.range (pa_cons (pe_fldN S (pv 0)) pa_nil)) (pg_name (i := 3) sc_closing.nd rfl (Or.inl rfl)) (pss_one (ps_if (pt_cmpR ni7 (pv 3) (pv 1) (by rfl)) (pss_cons (ps_expr (pe_l7 PySem.F.slot_list_append PySem.F.type_list_append app7 (pv 1) (pa_cons (pv 3) pa_nil)))
      (pss_cons (ps_set (i := 4) sc_closing.nd rfl (Or.inl rfl) (pe_has H_close (hr.mono (by decide)) (pa_cons (pv 0) (pa_cons (pv 1) pa_nil))))
      (pss_one (ps_expr (pe_l7 PySem.F.slot_list_append PySem.F.type_list_append app7 (pv 2) (pa_cons (pe_tup (pa_cons (pv 3) (pa_cons (pe_callTy tup7 (by rfl) T.tuple (by decide +kernel) (pa_cons (pv 1) pa_nil)) (pa_cons (pe_callTy tup7 (by rfl) T.tuple (by decide +kernel) (pa_cons (pv 4) pa_nil)) pa_nil)))) pa_nil)))))) pss_nil)))
      (pss_one (ps_ret (pv 2)))))), ?_⟩)
  obtain ⟨sv, t, rfl, hs, Sqt, q⟩ := h
  have hle := Sqt.le
  have big : 1000000 < sizeLine := by decide
  refine sq_ (sets_ rs_lst0 fun v1 H1 s1 ⟨kl, e1, hkl0, hkl⟩ => ?_)
  subst e1
  refine sq_ (sets_ rs_lst0 fun v2 H2 s2 ⟨fl, e2, hfl0, hfl⟩ => ?_)
  subst e2
  have nfk : fl ≠ kl := fun z => by rw [z, hkl] at hfl0; cases hfl0
  have hfl00 := s1.free hfl0
  have s12 := s1.trans s2
  refine sq_ (forR_ (n := t.length) (ev_n (ev_v rfl) (hs.same s12)) (sl1000 (by omega)) (fun x σ H' => Same H H' ∧ ∃ Kn us sts a b, σ = [some sv, some (.ref kl), some (.ref fl), a, b] ∧ H' kl = some (.lst (nv Kn)) ∧ H' fl = some (.lst us) ∧ Paired (StR H') us sts ∧ PreOk t [] sts ∧ Kn = endK [] sts ∧ Kn.Nodup ∧ (∀ k ∈ Kn, k < t.length) ∧ (∀ y, y < x → y ∈ Kn) ∧ sts.length ≤ x)
    ⟨s12, [], [], [], none, none, rfl, s2 _ _ hkl, hfl, .nil, trivial, rfl, List.nodup_nil, fun k hk => (by cases hk), fun y hy => (by omega), Nat.zero_le _⟩ (fun x σ H' hx h => ?_) fun σ H' h => ?_)
  · obtain ⟨s3, Kn, us, sts, a, b, rfl, hk3, hf3, pst, pre, eK, nd, lt, cov, few⟩ := h
    refine ifn_ (et_ni7 (x := .non) (ev_v rfl) (ev_v rfl) ⟨kl, rfl, hk3⟩) (fun hb => ?_) fun hb => ?_
    · have nin := of_decide_eq_true hb
      have nd4 : (Kn ++ [x]).Nodup := List.nodup_append.mpr ⟨nd, List.nodup_cons.mpr ⟨by simp, List.nodup_nil⟩, fun a ha b hb e => by
        rw [List.mem_singleton.mp hb] at e
        exact nin (e ▸ ha)⟩
      have lt4 : ∀ k ∈ Kn ++ [x], k < t.length := fun k hk => (List.mem_append.mp hk).elim (lt k) fun h => by rw [List.mem_singleton.mp h]; exact hx
      have lK : (Kn ++ [x]).length ≤ t.length := by
        have := List.Nodup.length_le_of_subset nd4 fun k hk => List.mem_range.mpr (lt4 k hk)
        rwa [List.length_range] at this
      rw [List.length_append, List.length_singleton] at lK
      refine sq_ (app_ (l := kl) (xs := nv Kn) (P := fun _ v => v = .int (x : Nat)) (ev_v rfl) hk3 ((ev_v rfl).rs rfl) (by rw [nv_len]; omega) fun v4 H4 s4 e4 => ?_)
      subst e4
      have s5 : Same H (upd H4 kl (.lst (nv Kn ++ [V.int (x : Nat)]))) := same_put (s3.trans s4) hkl0
      have fx5 := (fx_of s4).trans (fx_put (o := .lst (nv Kn ++ [V.int (x : Nat)])) (s4 _ _ hk3))
      have hk5 : upd H4 kl (.lst (nv Kn ++ [V.int (x : Nat)])) kl = some (.lst (nv (Kn ++ [x]))) := by rw [upd_same, nv_append]; rfl
      have hf5 : upd H4 kl (.lst (nv Kn ++ [V.int (x : Nat)])) fl = some (.lst us) := by rw [upd_ne nfk]; exact s4 _ _ hf3
      have p5 := strs_fx pst fx5
      generalize upd H4 kl (.lst (nv Kn ++ [V.int (x : Nat)])) = H5 at s5 fx5 hk5 hf5 p5
      refine sq_ (callg_ (ea_cons (ev_v rfl) (ea_cons (ev_v rfl) ea_nil)) ⟨sv, kl, t, Kn ++ [x], rfl, hs.same s5, Sqt, hk5, nd4, lt4, fun ml K1 md H6 hml0 cs clos => ?_⟩)
      obtain ⟨bu, hk6, ⟨ms, hms, pms⟩, ck⟩ := id cs
      have fx6 := bu.fx hk5
      have hf6 : H6 fl = some (.lst us) := bu _ _ nfk hf5
      have nmf : ml ≠ fl := fun z => by rw [z, hf5] at hml0; cases hml0
      have s6 : Same H H6 := fun b o e => bu b o (ne_of_none e hkl0) (s5 b o e)
      have okst : M7.StepOk t (endK [] sts) (x, K1, md) := ⟨eK ▸ nin, hx, eK ▸ ck.eq, eK ▸ ck.made, ck.lt, clos⟩
      refine app_ (l := fl) (xs := us) (P := fun H' v => StR H' v (x, K1, md)) (ev_v rfl) hf6 (Rs.imp (rs_three (P := fun H' u => Tn H' u K1) (P' := fun H' u => TrT H' u md) (ev_v rfl) (rs_tupN ((ev_v rfl).rs ⟨kl, rfl, hk6⟩)) (fun H7 s7 => Rs.imp (rs_tupR (ev_v rfl) (s7 _ _ hms)) fun H8 u s8 ⟨l, e, _, h⟩ => ⟨l, ms, e, h, tr3_fx pms (fx_of (s7.trans s8))⟩) (fun _ _ _ f h => h.fx f) fun _ _ _ f h => h.fx f) fun H7 v s7 ⟨p, u, w', e, h, h1, h2⟩ => ⟨p, u, w', e, h, h1, h2⟩) (by have := prd_len p5; omega) fun v7 H7 s7 h7 => ?_
      have fx7 := (fx_of s7).trans (fx_put (o := .lst (us ++ [v7])) (s7 _ _ hf6))
      refine ⟨same_put (s6.trans s7) hfl00, K1, us ++ [v7], sts ++ [(x, K1, md)], _, _, rfl, by rw [upd_ne (fun z => nfk z.symm)]; exact s7 _ _ hk6, upd_same, prd_app (strs_fx p5 (fx6.trans fx7)) (prd_one (h7.fx (fx_put (s7 _ _ hf6)))), steps_snoc (fun _ => trivial) pre okst, by rw [endK_snoc], ck.nd, ck.lt, fun y hy => ?_, by rw [List.length_append, List.length_singleton]; omega⟩
      rw [ck.eq]
      refine List.mem_append_left _ ?_
      by_cases e : y = x
      · rw [e]; exact List.mem_append_right _ (List.mem_singleton.mpr rfl)
      · exact List.mem_append_left _ (cov y (by omega))
    · have inn : x ∈ Kn := Classical.byContradiction fun z => of_decide_eq_false hb z
      refine ⟨s3, Kn, us, sts, _, _, rfl, hk3, hf3, pst, pre, eK, nd, lt, fun y hy => ?_, by omega⟩
      by_cases e : y = x
      · rw [e]; exact inn
      · exact cov y (by omega)
  · obtain ⟨s3, Kn, us, sts, a, b, rfl, hk3, hf3, pst, pre, eK, nd, lt, cov, few⟩ := h
    exact ret_ (ev_v rfl) (q fl us sts H' s3 hfl00 hf3 pst (steps_end pre fun y hy => eK ▸ cov y hy) few)
end
end W7
end
section
set_option Elab.async false
set_option linter.all false
set_option maxRecDepth 100000
set_option maxHeartbeats 1000000
namespace W7
open PySem PySem.Spec PyProof.Rows L2 RZ K37 K37E M7
def zv (zs : List Int) : List V := zs.map V.int
theorem zv_len (zs : List Int) : (zv zs).length = zs.length := List.length_map ..
theorem zv_at {zs : List Int} {j : Nat} (h : j < zs.length) : (zv zs)[j]? = some (.int (ati zs j)) := by
  unfold zv ati
  rw [List.getElem?_map, List.getElem?_eq_getElem h, List.getD_eq_getElem?_getD, List.getElem?_eq_getElem h]
  rfl
theorem zv_set {zs : List Int} {j : Nat} {z : Int} : (zv zs).set j (.int z) = zv (zs.set j z) := by
  unfold zv
  rw [List.map_set]
theorem made_at {t : List (List Nat)} : ∀ {md : List Tr} {K : List Nat} {i p l r : Nat}, MadeOk t K md → md[i]? = some (p, l, r) → MadeOk t K (md.take i) ∧ l ∈ K ++ (md.take i).map (·.1) ∧ r ∈ K ++ (md.take i).map (·.1)
  | [], _, _, _, _, _, _, h => by simp at h
  | (p', l', r') :: md, K, 0, p, l, r, ⟨h1, h2, h3, h4, h5⟩, h => by
    simp at h
    obtain ⟨rfl, rfl, rfl⟩ := h
    exact ⟨trivial, by simpa using h2, by simpa using h3⟩
  | (p', l', r') :: md, K, i + 1, p, l, r, ⟨h1, h2, h3, h4, h5⟩, h => by
    obtain ⟨a, b, c⟩ := made_at h5 (by simpa using h)
    refine ⟨⟨h1, h2, h3, h4, a⟩, ?_, ?_⟩
    · simpa using b
    · simpa using c
theorem made_sub {t : List (List Nat)} : ∀ {md : List Tr} {K : List Nat} {i : Nat}, MadeOk t K md → MadeOk t K (md.take i)
  | [], _, _, _ => by simp [MadeOk]
  | _ :: _, _, 0, _ => trivial
  | (p', l', r') :: md, K, i + 1, ⟨h1, h2, h3, h4, h5⟩ => ⟨h1, h2, h3, h4, made_sub h5⟩
section
variable {nx bk ct : L2.St → Hp → Prop} {rt : VK} {σ : L2.St} {H : Hp} {te to ti ta tb : TE} {K : PySem.W.Frag} {C : Addr}
theorem ev_z {p : Addr} {zs : List Int} {j : Nat} (ha : Ev ta σ H (.ref p)) (h : H p = some (.lst (zv zs))) (hb : Ev tb σ H (.int (j : Nat))) (hj : j < zs.length) : Ev (tOp ixL ta tb) σ H (.int (ati zs j)) := ev_ixLv ha h hb (zv_at hj)
theorem ev_zN {p : Addr} {zs : List Int} {j : Nat} (ha : Ev ta σ H (.ref p)) (h : H p = some (.lst (zv zs))) (hb : Ev tb σ H (.int (j : Nat))) (hj : j < zs.length) (h0 : 0 ≤ ati zs j) : Ev (tOp ixL ta tb) σ H (.int ((ati zs j).toNat : Nat)) := by
  have := ev_z ha h hb hj
  rwa [← Int.toNat_of_nonneg h0] at this
theorem setix_ {p : Addr} {xs : List V} {j : Nat} {v : V} (hv : Ev te σ H v) (ho : Ev to σ H (.ref p)) (hi : Ev ti σ H (.int (j : Nat))) (h : H p = some (.lst xs)) (hj : j < xs.length) (k : nx σ (upd H p (.lst (xs.set j v)))) : tAsg te (gSub to ti rSetL) ⟨nx, rt, bk, ct⟩ σ H := hv _ (ho _ (hi _ ⟨p, xs, j, j, rfl, rfl, h, by
  unfold ixN
  rw [if_pos (by omega), if_pos (by omega)]
  simp, k⟩))
theorem asg_ {v : V} {g : TG} (h : Ev te σ H v) (k : g v σ H nx) : tAsg te g ⟨nx, rt, bk, ct⟩ σ H := h _ k
end
section
variable {P : Program} {w : World} {K : PySem.W.Frag} {mg : Str → Option Value} {base : Heap} {C : Addr}
def spExt (C : Addr) : Sp := fun vs H Q _ => ∃ (sa sb st : V) (il : Addr) (t bt : List (List Nat)) (f : List Int) (K0 : List Nat) (sp : M7.Step) (y : Nat), vs = [sa, sb, .ref il, st, .int (y : Int), .bl false] ∧ SG C H sa t ∧ SG C H sb bt ∧ Sq t ∧ Sq bt ∧ H il = some (.lst (zv f)) ∧ f.length = t.length ∧
  StR H st sp ∧ StepOk t K0 sp ∧ (∀ k ∈ K0, 0 ≤ ati f k ∧ ati f k < (bt.length : Int)) ∧ (∀ k ∈ K0, k < t.length) ∧ y < bt.length ∧
  (∀ H', Same H H' → ext t bt f sp y = none → Q .non H') ∧ ∀ l g H', Same H H' → H l = none → H' l = some (.lst (zv g)) → ext t bt f sp y = some g → Q (.ref l) H'
theorem sc_extended : FnScope ["a", "b", "images", "step", "y", "unlike", "x", "known", "made", "found", "product", "left", "right", "z"] ["a", "b", "images", "step", "y", "unlike"] (defScope s_extended) := ⟨rfl, rfl, rfl, by decide +kernel, rfl, by decide +kernel, by decide +kernel⟩
theorem h_extended (D : Dfn K mg "extended" s_extended) (T : Bl mg) (S : SemF K mg C) : Has P w K mg base "extended" ["a", "b", "images", "step", "y", "unlike"] 1 (spExt (C)) := by
  refine D.has sc_extended (fun _ _ _ _ _ _ us hl => match us, hl with | [_, _, _, _, _, _], _ => rfl) (fun vs H Q E h => by obtain ⟨sa, sb, st, il, t, bt, f7, K0, sp, y, rfl, _⟩ := h; rfl) (fun f cdv A outer s H vs Q E hr h => ⟨_, (pss_cons (ps_asg (pv 3) (pg7 (n := 3) K (by rfl) (pgs_cons (pg_name (i := 6) sc_extended.nd rfl (Or.inl rfl)) (pgs_cons (pg_name (i := 7) sc_extended.nd rfl (Or.inl rfl)) (pgs_cons (pg_name (i := 8) sc_extended.nd rfl (Or.inl rfl)) pgs_nil)))))
      (pss_cons (ps_set (i := 9) sc_extended.nd rfl (Or.inr rfl) (pe_callTy list7 (by rfl) T.list (by decide +kernel) (pa_cons (pv 2) pa_nil)))
      (pss_cons (ps_asg (pv 4) (pg_sub (pv 9) (pv 6) set_list))
      (pss_cons (ps_for PassesOwn.never (by rfl) (pi7T K (pv 8)) (pg7 (n := 3) K (by rfl) (pgs_cons (pg_name (i := 10) sc_extended.nd rfl (Or.inl rfl)) (pgs_cons (pg_name (i := 11) sc_extended.nd rfl (Or.inl rfl)) (pgs_cons (pg_name (i := 12) sc_extended.nd rfl (Or.inl rfl)) pgs_nil)))) (pss_one (ps_asg (pe_ix ix7T (pe_ix ix7T (pe_fldT S (pv 1)) (pe_ix ix7L (pv 9) (pv 11) (fun _ _ => rfl)) (fun _ _ => rfl)) (pe_ix ix7L (pv 9) (pv 12) (fun _ _ => rfl)) (fun _ _ => rfl)) (pg_sub (pv 9) (pv 10) set_list))))
      (pss_cons (ps_for PassesOwn.never (by rfl) (pi7T K (pv 7)) (pg_name (i := 11) sc_extended.nd rfl (Or.inl rfl)) (pss_one (ps_for PassesOwn.never (by rfl) (pi7T K (pv 7)) (pg_name (i := 12) sc_extended.nd rfl (Or.inl rfl)) (pss_one (ps_if (pt_cmpR op_ne (pe_ix ix7L (pv 9) (pe_ix ix7T (pe_ix ix7T (pe_fldT S (pv 0)) (pv 11) (fun _ _ => rfl)) (pv 12) (fun _ _ => rfl)) (fun _ _ => rfl)) (pe_ix ix7T (pe_ix ix7T (pe_fldT S (pv 1)) (pe_ix ix7L (pv 9) (pv 11) (fun _ _ => rfl)) (fun _ _ => rfl)) (pe_ix ix7L (pv 9) (pv 12) (fun _ _ => rfl)) (fun _ _ => rfl)) (nomark _)) (pss_one (ps_ret pe_non)) pss_nil)))))
      (pss_cons (ps_if (PW.pt (pw_and (pt_val (pv 5)) (pw_and1 pt_nev))) (pss_one (ps_ret pe_non)) pss_nil)
      (pss_one (ps_ret (pv 9))))))))), ?_⟩)
  obtain ⟨sa, sb, st, il, t, bt, f7, K0, ⟨x, kn, md⟩, y, rfl, hsa, hsb, Sqt, Sqb, hil, lf, hst, ok, rng, k0lt, hy, qn, qs⟩ := h
  obtain ⟨sta, kv, mv, rfl, hsta, hkv, hmv⟩ := id hst
  have hkv : Tn H kv kn := hkv
  have hmv : TrT H mv md := hmv
  have hx : x < t.length := ok.lt
  have knOk : kn = (K0 ++ [x]) ++ md.map (·.1) := ok.known
  have mdOk : MadeOk t (K0 ++ [x]) md := ok.made
  have allk : ∀ k ∈ kn, k < t.length := ok.all
  have clk : ∀ l ∈ kn, ∀ r ∈ kn, mul t l r ∈ kn := ok.closed
  have mdlt : ∀ m ∈ md, m.1 < f7.length := fun m hm => by
    rw [lf]
    exact allk _ (by rw [knOk]; exact List.mem_append_right _ (List.mem_map.mpr ⟨m, hm, rfl⟩))
  have f0len : (f7.set x (y : Int)).length = f7.length := List.length_set ..
  have rng0 : ∀ k ∈ K0 ++ [x], 0 ≤ ati (f7.set x (y : Int)) k ∧ ati (f7.set x (y : Int)) k < (bt.length : Int) := fun k hk => by
    rw [ati_set (by rw [lf]; exact hx)]
    by_cases e : k = x
    · rw [if_pos e]
      omega
    · rw [if_neg e]
      rcases List.mem_append.mp hk with q | q
      · exact rng k q
      · exact absurd (List.mem_singleton.mp q) e
  -- step
  refine sq_ (asg_ (ev_v rfl) (tg3 rfl hsta ?_))
  refine sq_ (sets_ (rs_list7 (ev_v rfl) hil) fun v1 H1 s1 ⟨fl, e1, hfl0, hfl⟩ => ?_)
  subst e1
  refine sq_ (setix_ (j := x) (ev_v rfl) (ev_v rfl) (ev_v rfl) hfl (by rw [zv_len, lf]; exact hx) ?_)
  rw [zv_set]
  have s2 : Same H (upd H1 fl (.lst (zv (f7.set x (y : Int))))) := same_put s1 hfl0
  have e2 : upd H1 fl (.lst (zv (f7.set x (y : Int)))) fl = some (.lst (zv (f7.set x (y : Int)))) := upd_same
  generalize upd H1 fl (.lst (zv (f7.set x (y : Int)))) = H2 at s2 e2
  have extdef : ext t bt f7 (x, kn, md) y = if okF t bt kn (extF bt md (f7.set x (y : Int))) = true then some (extF bt md (f7.set x (y : Int))) else none := rfl
  generalize f7.set x (y : Int) = f0 at e2 f0len rng0 extdef
  have mdlt0 : ∀ m ∈ md, m.1 < f0.length := fun m hm => by rw [f0len]; exact mdlt m hm
  obtain ⟨ma, mvs, rfl, hma, pmd⟩ := id hmv
  refine sq_ (forT_ (p := ma) (xs := mvs) (ev_v rfl) (s2 _ _ hma) (fun i σ H' => Same H H' ∧ ∃ a b c d, σ = [some sa, some sb, some (.ref il), some (.ref sta), some (.int (y : Nat)), some (.bl false), some (.int (x : Nat)), some kv, some (.ref ma), some (.ref fl), a, b, c, d] ∧ H' fl = some (.lst (zv (extF bt (md.take i) f0))))
    ⟨s2, none, none, none, none, rfl, e2⟩ (fun i σ H' h => h.1 _ _ hma) (fun i z σ H' hz h => ?_) fun σ H' h => ?_)
  · obtain ⟨s3, a, b, c, d, rfl, hf3⟩ := h
    obtain ⟨⟨p, l, r⟩, hm, hzm⟩ := prd_at' pmd hz
    obtain ⟨mo, hl, hr'⟩ := made_at mdOk hm
    have hzz : Tn H z [p, l, r] := hzm
    obtain ⟨za, rfl, hza⟩ := hzz.same s3
    have lg : (extF bt (md.take i) f0).length = t.length := by rw [extF_len, f0len, lf]
    have inkn : ∀ {k}, k ∈ (K0 ++ [x]) ++ (md.take i).map (·.1) → k < t.length := fun {k} hk => allk k (by
      rw [knOk]
      rcases List.mem_append.mp hk with q | q
      · exact List.mem_append_left _ q
      · obtain ⟨m, hm, e⟩ := List.mem_map.mp q
        exact List.mem_append_right _ (List.mem_map.mpr ⟨m, List.mem_of_mem_take hm, e⟩))
    have ml := made_lt Sqb (md.take i) (K0 ++ [x]) f0 mo (fun m hm => mdlt0 m (List.mem_of_mem_take hm)) rng0
    have hml := ml l hl
    have hmr := ml r hr'
    have hpl := mdlt0 _ (List.mem_of_getElem? hm)
    have hp : p < t.length := by rw [← lf, ← f0len]; exact hpl
    refine tg3 rfl hza ?_
    generalize hg : extF bt (md.take i) f0 = g at hf3 lg hml hmr
    refine setix_ (j := p) (v := .int (mulI bt (ati g l) (ati g r))) (ev_tab Sqb (ev_v rfl) (hsb.same s3) (ev_zN (ev_v rfl) hf3 (ev_v rfl) (by rw [lg]; exact inkn hl) hml.1) (ev_zN (ev_v rfl) hf3 (ev_v rfl) (by rw [lg]; exact inkn hr') hmr.1) (by omega) (by omega)) (ev_v rfl) (ev_v rfl) hf3 (by rw [zv_len, lg]; exact hp) ⟨same_put s3 hfl0, _, _, _, _, rfl, ?_⟩
    rw [upd_same, zv_set, take_snoc hm]
    have e : extF bt (md.take i ++ [(p, l, r)]) f0 = g.set p (mulI bt (ati g l) (ati g r)) := by
      rw [← hg]
      unfold extF
      rw [List.foldl_append]
      rfl
    rw [e]
  · obtain ⟨s3, a, b, c, d, rfl, hf3⟩ := h
    rw [prd_len pmd, List.take_length] at hf3
    have ml := made_lt Sqb md (K0 ++ [x]) f0 mdOk mdlt0 rng0
    rw [← knOk] at ml
    have lg : (extF bt md f0).length = t.length := by rw [extF_len, f0len, lf]
    generalize extF bt md f0 = g at hf3 lg ml extdef
    obtain ⟨ka, rfl, hka⟩ := id hkv
    have okIff : okF t bt kn g = true ↔ ∀ l ∈ kn, ∀ r ∈ kn, ati g (mul t l r) = mulI bt (ati g l) (ati g r) := by
      unfold okF
      simp only [List.all_eq_true, decide_eq_true_eq]
    refine sq_ (forT_ (p := ka) (xs := nv kn) (ev_v rfl) (s3 _ _ hka) (fun i σ H' => Same H H' ∧ H' fl = some (.lst (zv g)) ∧ (∀ l ∈ kn.take i, ∀ r ∈ kn, ati g (mul t l r) = mulI bt (ati g l) (ati g r)) ∧ ∃ a b c d, σ = [some sa, some sb, some (.ref il), some (.ref sta), some (.int (y : Nat)), some (.bl false), some (.int (x : Nat)), some (.ref ka), some (.ref ma), some (.ref fl), a, b, c, d])
      ⟨s3, hf3, fun l hl => (by simp at hl), a, b, c, d, rfl⟩ (fun i σ H' h => h.1 _ _ hka) (fun i z σ H' hz h => ?_) fun σ H' h => ?_)
    · obtain ⟨s4, hf4, done, a, b, c, d, rfl⟩ := h
      have hi := (List.getElem?_eq_some_iff.mp hz).1
      rw [nv_len] at hi
      rw [nv_at hi] at hz
      cases hz
      have him := at_mem hi
      refine forT_ (p := ka) (xs := nv kn) (ev_v rfl) (s4 _ _ hka) (fun j σ H' => Same H H' ∧ H' fl = some (.lst (zv g)) ∧ (∀ r ∈ kn.take j, ati g (mul t (at' kn i) r) = mulI bt (ati g (at' kn i)) (ati g r)) ∧ ∃ a c d, σ = [some sa, some sb, some (.ref il), some (.ref sta), some (.int (y : Nat)), some (.bl false), some (.int (x : Nat)), some (.ref ka), some (.ref ma), some (.ref fl), a, some (.int (at' kn i : Nat)), c, d])
        ⟨s4, hf4, fun r hr => (by simp at hr), a, c, d, rfl⟩ (fun j σ H' h => h.1 _ _ hka) (fun j z σ H' hz h => ?_) fun σ H' h => ?_
      · obtain ⟨s5, hf5, done5, a, c, d, rfl⟩ := h
        have hj := (List.getElem?_eq_some_iff.mp hz).1
        rw [nv_len] at hj
        have hz0 := hz
        rw [nv_at hj] at hz
        cases hz
        have hjm := at_mem hj
        have hil2 := allk _ him
        have hjl2 := allk _ hjm
        have pm := clk _ him _ hjm
        have v1 := ml _ him
        have v2 := ml _ hjm
        have v3 := ml _ pm
        have evp := ev_zN (σ := [some sa, some sb, some (.ref il), some (.ref sta), some (.int (y : Nat)), some (.bl false), some (.int (x : Nat)), some (.ref ka), some (.ref ma), some (.ref fl), a, some (.int (at' kn i : Nat)), some (.int (at' kn j : Nat)), d]) (ev_v (i := 9) rfl) hf5 (ev_tab Sqt (ev_v (i := 0) rfl) (hsa.same s5) (ev_v (i := 11) rfl) (ev_v (i := 12) rfl) hil2 hjl2) (by rw [lg]; exact allk _ pm) v3.1
        have evm := ev_tab (σ := [some sa, some sb, some (.ref il), some (.ref sta), some (.int (y : Nat)), some (.bl false), some (.int (x : Nat)), some (.ref ka), some (.ref ma), some (.ref fl), a, some (.int (at' kn i : Nat)), some (.int (at' kn j : Nat)), d]) Sqb (ev_v (i := 1) rfl) (hsb.same s5) (ev_zN (ev_v (i := 9) rfl) hf5 (ev_v (i := 11) rfl) (by rw [lg]; exact hil2) v1.1) (ev_zN (ev_v (i := 9) rfl) hf5 (ev_v (i := 12) rfl) (by rw [lg]; exact hjl2) v2.1) (by omega) (by omega)
        refine ifn_ (et_t (ev_neN evp evm)) (fun hb => ?_) fun hb => ?_
        · refine ret_ ev_c (qn H' s5 ?_)
          rw [extdef, if_neg]
          intro h
          have e := okIff.mp h _ him _ hjm
          have hb2 : ¬ (ati g (mul t (at' kn i) (at' kn j))).toNat = mul bt (ati g (at' kn i)).toNat (ati g (at' kn j)).toNat := by simpa using hb
          unfold mulI at e
          omega
        · have hb2 : (ati g (mul t (at' kn i) (at' kn j))).toNat = mul bt (ati g (at' kn i)).toNat (ati g (at' kn j)).toNat := by simpa using hb
          refine ⟨s5, hf5, fun r hr => ?_, _, _, _, rfl⟩
          rw [List.take_succ, at_some hj] at hr
          rcases List.mem_append.mp hr with q | q
          · exact done5 r q
          · have e : r = at' kn j := List.mem_singleton.mp q
            rw [e]
            unfold mulI
            omega
      · obtain ⟨s5, hf5, done5, a, c, d, rfl⟩ := h
        rw [nv_len, List.take_length] at done5
        refine ⟨s5, hf5, fun l hl => ?_, _, _, _, _, rfl⟩
        rw [List.take_succ, at_some hi] at hl
        rcases List.mem_append.mp hl with q | q
        · exact done l q
        · have e : l = at' kn i := List.mem_singleton.mp q
          rw [e]
          exact done5
    · obtain ⟨s4, hf4, done, a, b, c, d, rfl⟩ := h
      rw [nv_len, List.take_length] at done
      refine sq_ (chk_ (et_and (a := false) (b := false) (et_b (ev_v rfl)) fun z => nomatch z) (ret_ (ev_v rfl) (qs fl g H' s4 hfl0 hf4 ?_)))
      rw [extdef, if_pos (okIff.mpr done)]
end
end W7
end
section
set_option Elab.async false
set_option linter.all false
set_option maxRecDepth 100000
set_option maxHeartbeats 1000000
namespace W7
open PySem PySem.Spec PyProof.Rows L2 RZ K37 K37E M7
section
variable {G : Gp} {nx bk ct : Nat → Hp → L2.St → Hp → Prop} {rt : Nat → Hp → VK} {i : Nat} {Hw H : Hp} {σ : L2.St} {tc : TT} {te : TE}
theorem gsq_ {t u : TG7} (h : t ⟨fun i' Hw' σ' H' => u ⟨nx, rt, bk, ct⟩ i' Hw' σ' H', rt, bk, ct⟩ i Hw σ H) : tG7seq t u ⟨nx, rt, bk, ct⟩ i Hw σ H := h
theorem gpl_ {t : TS} (h : t ⟨nx i Hw, rt i Hw, bk i Hw, ct i Hw⟩ σ H) : tPl t ⟨nx, rt, bk, ct⟩ i Hw σ H := h
theorem gone_ {t : TG7} (h : t ⟨nx, rt, bk, ct⟩ i Hw σ H) : tG7seq t tG7nil ⟨nx, rt, bk, ct⟩ i Hw σ H := h
theorem gif_ {t u : TG7} {b : Bool} (h : Et tc σ H b) (h1 : b = true → t ⟨nx, rt, bk, ct⟩ i Hw σ H) (h2 : b = false → u ⟨nx, rt, bk, ct⟩ i Hw σ H) : tG7if tc t u ⟨nx, rt, bk, ct⟩ i Hw σ H := h _ (by
  cases b with
  | true => exact iteT (h1 rfl)
  | false => exact iteF (h2 rfl))
theorem gyield_ {P : Hp → V → Prop} (hi : i < G.M) (h : Rs te σ H P) (k : ∀ x H1, Same H H1 → P H1 x → Gd G.C Hw H1 ∧ ∀ H2, Wk G.C H1 H2 → nx (i + 1) H2 σ H2) : tG7yield G te ⟨nx, rt, bk, ct⟩ i Hw σ H := ⟨hi, h _ k⟩
theorem gwhile_ {tb : TG7} (I : Nat → Nat → Hp → L2.St → Hp → Prop) (m0 : Nat) (h0 : I m0 i Hw σ H) (step : ∀ m i Hw σ H, I m i Hw σ H → ∃ b, Et tc σ H b ∧
    (b = true → tb ⟨fun i' Hw' σ' H' => ∃ m', m' < m ∧ I m' i' Hw' σ' H', rt, nx, fun i' Hw' σ' H' => ∃ m', m' < m ∧ I m' i' Hw' σ' H'⟩ i Hw σ H) ∧ (b = false → nx i Hw σ H)) : tG7while tc tb ⟨nx, rt, bk, ct⟩ i Hw σ H := by
  refine ⟨I, ⟨m0, h0⟩, fun m i Hw σ H h => ?_⟩
  obtain ⟨b, e, h1, h2⟩ := step m i Hw σ H h
  refine e _ ?_
  cases b with
  | true => exact iteT ⟨_, fun _ _ _ _ q => q, h1 rfl⟩
  | false => exact iteF (h2 rfl)
end
section
variable {nx bk ct : L2.St → Hp → Prop} {rt : VK} {σ : L2.St} {H : Hp} {te tn ta tb tc : TE} {C : Addr}
theorem rs_rep {n : Nat} {z : Int} (h : Ev te σ H (.int z)) (hn : ∀ H', Same H H' → Ev tn σ H' (.int (n : Nat))) (h1 : n ≤ 1000) : Rs (tOp rRep (tLst (tCons te tNil)) tn) σ H fun H' v => ∃ l, v = .ref l ∧ H l = none ∧ H' l = some (.lst (zv (List.replicate n z))) := fun Q q => h _ ⟨by show 1 ≤ sizeLine; decide, fun p hp => hn _ (same_new hp) _ ⟨p, n, [.int z], rfl, rfl, upd_same, by omega, by omega, by
  rw [Int.toNat_natCast]
  have : 1000 < sizeLine := by decide
  show 1 * n ≤ sizeLine
  omega, fun l hl => q _ _ ((same_new hp).trans (same_new hl)) ⟨l, rfl, (same_new hp).free hl, by
    rw [upd_same, Int.toNat_natCast]
    have e : (List.replicate n [V.int z]).flatten = zv (List.replicate n z) := by
      rw [List.flatten_replicate_singleton]
      unfold zv
      rw [List.map_replicate]
    rw [e]⟩⟩⟩
theorem forDn_ {g : TG} {bd : TS} {n : Nat} (ha : Ev ta σ H (.int ((n : Int) - 1))) (hb : Ev tb σ H (.int (-1))) (hc : Ev tc σ H (.int (-1))) (hn : n ≤ 1000) (I : Nat → L2.St → Hp → Prop) (h0 : I 0 σ H)
    (turn : ∀ j σ H, j < n → I j σ H → g (.int ((n - 1 - j : Nat) : Int)) σ H fun σ2 H2 => bd ⟨I (j + 1), rt, nx, I (j + 1)⟩ σ2 H2) (done : ∀ σ H, I n σ H → nx σ H) : tFor (iRng3 (tCons ta (tCons tb (tCons tc tNil)))) g bd ⟨nx, rt, bk, ct⟩ σ H := by
  refine ha _ (hb _ (hc _ ⟨(n : Int) - 1, -1, -1, n, rfl, ?_, ?_⟩))
  · have := RgC.neg (i := (n : Int) - 1) (j := -1) (by omega) (by omega) (by omega) (by omega)
    have e : ((n : Int) - 1 - -1).toNat = n := by omega
    rwa [e] at this
  · refine for_rangeC (lo := (n : Int) - 1) (c := -1) (n := n) I h0 (fun j σ H hj h => ?_) done
    have e : (n : Int) - 1 + (j : Nat) * (-1) = ((n - 1 - j : Nat) : Int) := by omega
    rw [e]
    exact turn j σ H hj h
theorem et_notnone {v : V} {b : Bool} (h : Ev te σ H v) (e : (!decide (v = .non)) = b) : Et (tB (tNotN te)) σ H b := fun Q q => h _ ⟨_, rfl, by rw [e]; exact q⟩
end
/-! the stack of the walk -/
def cntO (t bt : List (List Nat)) (rest : List M7.Step) (f : List Int) (st : M7.Step) (y : Nat) : Nat := match ext t bt f st y with
  | none => 0
  | some g => (outs t bt rest g).length
def cntC (t bt : List (List Nat)) (rest : List M7.Step) (f : List Int) (st : M7.Step) (y : Nat) : Nat := match ext t bt f st y with
  | none => 0
  | some g => cost t bt rest g
theorem outs_len {t bt : List (List Nat)} {rest : List M7.Step} {f : List Int} {st : M7.Step} : (outs t bt (st :: rest) f).length = ((List.range bt.length).map (cntO t bt rest f st)).sum := by
  show ((List.range bt.length).flatMap fun y => match ext t bt f st y with | none => [] | some f => outs t bt rest f).length = _
  rw [List.length_flatMap]
  congr 1
  refine List.map_congr_left fun y _ => ?_
  unfold cntO
  cases ext t bt f st y <;> rfl
theorem cost_eq {t bt : List (List Nat)} {rest : List M7.Step} {f : List Int} {st : M7.Step} : cost t bt (st :: rest) f = 1 + ((List.range bt.length).map (cntC t bt rest f st)).sum := rfl
theorem cost_pos (t bt : List (List Nat)) : ∀ (steps : List M7.Step) (f : List Int), 1 ≤ cost t bt steps f
  | [], _ => Nat.le_refl _
  | st :: rest, f => by rw [cost_eq]; omega
theorem sum_le {m b : Nat} {g : Nat → Nat} : (∀ y, g y ≤ b) → ((List.range m).map g).sum ≤ m * b := fun h => by
  induction m with
  | zero => simp
  | succ m ih =>
    rw [List.range_succ, List.map_append, List.sum_append, Nat.succ_mul]
    have := h m
    simp
    omega
theorem cost_le {t bt : List (List Nat)} : ∀ (steps : List M7.Step) (f : List Int), cost t bt steps f ≤ (bt.length + 1) ^ steps.length
  | [], _ => by show 1 ≤ _; simp
  | st :: rest, f => by
    rw [cost_eq, List.length_cons, Nat.pow_succ, Nat.mul_comm, Nat.succ_mul]
    have h : ∀ y, cntC t bt rest f st y ≤ (bt.length + 1) ^ rest.length := fun y => by
      unfold cntC
      cases ext t bt f st y with
      | none => exact Nat.zero_le _
      | some g => exact cost_le rest g
    have h1 := sum_le (m := bt.length) h
    have h2 : 0 < (bt.length + 1) ^ rest.length := Nat.pow_pos (by omega)
    omega
theorem steps_at {t : List (List Nat)} : ∀ {steps : List M7.Step} {K0 : List Nat} {k : Nat} {st : M7.Step}, StepsOk t K0 steps → steps[k]? = some st → StepOk t (endK K0 (steps.take k)) st ∧ endK K0 (steps.take (k + 1)) = st.2.1
  | [], _, _, _, _, h => by simp at h
  | s :: steps, K0, 0, st, ⟨h1, h2⟩, h => by
    simp at h
    subst h
    exact ⟨h1, by simp [endK]⟩
  | s :: steps, K0, k + 1, st, ⟨h1, h2⟩, h => by
    have := steps_at (k := k) h2 (by simpa using h)
    exact ⟨this.1, this.2⟩
def wO (t bt : List (List Nat)) (steps : List M7.Step) (e : List Int × Nat) : Nat := (outs t bt (steps.drop e.2) e.1).length
def wC (t bt : List (List Nat)) (steps : List M7.Step) (e : List Int × Nat) : Nat := cost t bt (steps.drop e.2) e.1
structure VE (t bt : List (List Nat)) (steps : List M7.Step) (e : List Int × Nat) : Prop where
  le : e.2 ≤ steps.length
  len : e.1.length = t.length
  rng : ∀ z ∈ endK [] (steps.take e.2), 0 ≤ ati e.1 z ∧ ati e.1 z < (bt.length : Int)
  lt : ∀ z ∈ endK [] (steps.take e.2), z < t.length
theorem ve_next {t bt : List (List Nat)} {steps : List M7.Step} {f g : List Int} {k y : Nat} {st : M7.Step} (Sb : Sq bt) (so : StepsOk t [] steps) (V : VE t bt steps (f, k)) (hk : steps[k]? = some st) (hy : y < bt.length) (h : ext t bt f st y = some g) : VE t bt steps (g, k + 1) := by
  obtain ⟨ok, ek⟩ := steps_at so hk
  unfold ext at h
  by_cases hok : okF t bt st.2.1 (extF bt st.2.2 (f.set st.1 (y : Int))) = true
  · rw [if_pos hok] at h
    have hg := Option.some.inj h
    have hx : st.1 < f.length := by rw [V.len]; exact ok.lt
    have fl : (f.set st.1 (y : Int)).length = t.length := by rw [List.length_set]; exact V.len
    refine ⟨(List.getElem?_eq_some_iff.mp hk).1, by rw [← hg, extF_len, fl], fun z hz => ?_, fun z hz => ?_⟩
    · have hz : z ∈ endK [] (steps.take (k + 1)) := hz
      rw [ek, ok.known] at hz
      rw [← hg]
      refine made_lt Sb st.2.2 (endK [] (steps.take k) ++ [st.1]) _ ok.made (fun m hm => ?_) (fun q hq => ?_) z hz
      · rw [fl]
        exact ok.all _ (by rw [ok.known]; exact List.mem_append_right _ (List.mem_map.mpr ⟨m, hm, rfl⟩))
      · rw [ati_set hx]
        by_cases e : q = st.1
        · rw [if_pos e]; omega
        · rw [if_neg e]
          rcases List.mem_append.mp hq with q' | q'
          · exact V.rng q q'
          · exact absurd (List.mem_singleton.mp q') e
    · have hz : z ∈ endK [] (steps.take (k + 1)) := hz
      rw [ek] at hz
      exact ok.all z hz
  · rw [if_neg hok] at h
    cases h
/-- an entry of the stack: a list that nobody else holds, and a place -/
def WR (Cc : Addr → Prop) (wl : Addr) (H : Hp) (v : V) (e : List Int × Nat) : Prop := ∃ a il, v = .ref a ∧ H a = some (.tup [.ref il, .int (e.2 : Nat)]) ∧ H il = some (.lst (zv e.1)) ∧ il ≠ wl ∧ ¬ Cc il
theorem wrs_same {Cc : Addr → Prop} {wl : Addr} {H H' : Hp} {vs : List V} {es : List (List Int × Nat)} (h : Paired (WR Cc wl H) vs es) (s : Same H H') : Paired (WR Cc wl H') vs es := prd_imp h fun _ _ ⟨a, il, e, h1, h2, h3, h4⟩ => ⟨a, il, e, s _ _ h1, s _ _ h2, h3, h4⟩
theorem wrs_put {Cc : Addr → Prop} {wl : Addr} {H : Hp} {vs xs : List V} {o : HO} {es : List (List Int × Nat)} (h : Paired (WR Cc wl H) vs es) (e : H wl = some (.lst xs)) : Paired (WR Cc wl (upd H wl o)) vs es := prd_imp h fun _ _ ⟨a, il, e1, h1, h2, h3, h4⟩ => ⟨a, il, e1, by
  rw [upd_ne (ne_of h1 e (by intro z; cases z))]
  exact h1, by rw [upd_ne h3]; exact h2, h3, h4⟩
theorem wrs_wk {Cc : Addr → Prop} {wl : Addr} {H H' : Hp} {vs : List V} {es : List (List Int × Nat)} (h : Paired (WR Cc wl H) vs es) (s : Wk Cc H H') : Paired (WR Cc wl H') vs es := prd_imp h fun _ _ ⟨a, il, e, h1, h2, h3, h4⟩ => ⟨a, il, e, s.1 _ _ h1 (.inr (.inl ⟨_, rfl⟩)), s.1 _ _ h2 (.inl h4), h3, h4⟩
theorem fx_wk {Cc : Addr → Prop} {H H' : Hp} (s : Wk Cc H H') : Fx H H' := fun b o f e => s.1 b o e (by
  cases o with
  | tup xs => exact .inr (.inl ⟨_, rfl⟩)
  | ins c d fs => exact .inr (.inr (.inl ⟨_, _, _, rfl⟩))
  | frz ob u =>
    cases u with
    | tup xs => exact .inr (.inr (.inr ⟨_, _, rfl⟩))
    | _ => cases f
  | _ => cases f)
theorem gd_same {Cc : Addr → Prop} {H H1 H2 : Hp} (g : Gd Cc H H1) (s : Same H1 H2) : Gd Cc H H2 := fun b o e c => s b o (g b o e c)
theorem cov_same {H H1 H2 : Hp} (s : Same H1 H2) (c : ∀ b, H b ≠ none → H1 b ≠ none) : ∀ b, H b ≠ none → H2 b ≠ none := fun b h => by
  have := c b h
  cases q : H1 b with
  | none => exact absurd q this
  | some o => rw [s b o q]; exact fun z => nomatch z
theorem cov_put {H H1 : Hp} {l : Addr} {o : HO} (c : ∀ b, H b ≠ none → H1 b ≠ none) : ∀ b, H b ≠ none → upd H1 l o b ≠ none := fun b h => by
  by_cases z : b = l
  · rw [z, upd_same]; exact fun z => nomatch z
  · rw [upd_ne z]; exact c b h
theorem gd_put {Cc : Addr → Prop} {H H1 : Hp} {l : Addr} {xs : List V} {o : HO} (g : Gd Cc H H1) (e : H1 l = some (.lst xs)) (n : ¬ Cc l) : Gd Cc H (upd H1 l o) := fun b u hb c => by
  have := g b u hb c
  rw [upd_ne]
  · exact this
  · intro z
    subst z
    rcases c with c | ⟨ys, rfl⟩
    · exact n c
    · rw [e] at this
      cases this
theorem sc_walk : GScope ["a", "b", "unlike", "steps", "waiting", "images", "at", "y", "more"] ["a", "b", "unlike"] (defScope s_walk) := ⟨rfl, rfl, rfl, by decide +kernel, rfl, by decide +kernel, by decide +kernel⟩
section
variable {P : Program} {w : World} {K : PySem.W.Frag} {mg : Str → Option Value} {base : Heap} {C : Addr}
def spWalk (C : Addr) : SpG7 := fun vs H M => ∃ (sa sb : V) (t bt : List (List Nat)), vs = [sa, sb, .bl false] ∧ SG C H sa t ∧ SG C H sb bt ∧ Sq t ∧ Sq bt ∧ t.length ≤ 4 ∧ bt.length ≤ 4 ∧ M = (homsL t bt).length
structure GHas (P : Program) (w : World) (K : PySem.W.Frag) (mg : Str → Option Value) (base : Heap) (x : Str) (ps : List Str) (k : Nat) (sp : SpG7) : Prop where
  ex : ∃ f fd, mg x = some (.ref f) ∧ PySem.W.keepIn K (.ref f) = true ∧ Binds K fd ps [] ∧ GD7 P w K mg base k f fd ps sp
theorem h_walk (D : Dfn K mg "walk" s_walk) (T : Bl mg) (S : SemF K mg C) (H_closing : Has P w K mg base "closing" ["s"] 2 (spClosing C)) (H_extended : Has P w K mg base "extended" ["a", "b", "images", "step", "y", "unlike"] 1 (spExt C)) : GHas P w K mg base "walk" ["a", "b", "unlike"] 4 (spWalk C) := by
  obtain ⟨f, fd, F, g⟩ := D.ex
  refine ⟨f, fd, g, F.kp, F.bindsN (fun _ _ _ _ _ _ us hl => match us, hl with | [_, _, _], _ => rfl), gd7_of F sc_walk ⟨by rfl, fun n => by rfl⟩ (fun vs H M h => by obtain ⟨_, _, _, _, rfl, _⟩ := h; rfl) fun cdv A outer s H vs M hr h Xc pins gp n0 B hG => ?_⟩
  obtain ⟨sa, sb, t, bt, rfl, hsa, hsb, Sqt, Sqb, h4, hb4, rfl⟩ := h
  refine ⟨_, gqs_cons (gq_ps hG fun s8 H8 => (ps_set (i := 3) sc_walk.nd rfl (Or.inl rfl) (pe_has H_closing (hr.mono (by decide)) (pa_cons (pv 0) pa_nil)))) (gqs_cons (gq_ps hG fun s8 H8 => (ps_set (i := 4) sc_walk.nd rfl (Or.inl rfl) (pe_lst (pa_cons (pe_tup (pa_cons (pe_op op_rep (pe_lst (pa_cons (pe_un un_neg pe_int) pa_nil)) (pe_fldN S (pv 0))) (pa_cons pe_int pa_nil))) pa_nil)))) (gqs_one (gq_while hG (fun s8 H8 => (pt_cmpR op_gt (pe_callB len7 (by rfl) T.len (by decide +kernel) (pa_cons (pv 4) pa_nil)) pe_int (nomark _))) (gqs_cons (gq_ps hG fun s8 H8 => (ps_asg (pe_l70 PySem.F.slot_list_pop PySem.F.type_list_pop pop7 (pv 4)) (pg7 (n := 2) K (by rfl) (pgs_cons (pg_name (i := 5) sc_walk.nd rfl (Or.inl rfl)) (pgs_cons (pg_name (i := 6) sc_walk.nd rfl (Or.inl rfl)) pgs_nil))))) (gqs_one (gq_if hG (fun s8 H8 => (pt_cmpR op_eq (pv 6) (pe_callB len7 (by rfl) T.len (by decide +kernel) (pa_cons (pv 3) pa_nil)) (nomark _))) (gqs_one (gq_yield hG (fun s8 H8 => (pe_callTy tup7 (by rfl) T.tuple (by decide +kernel) (pa_cons (pv 5) pa_nil))) rfl rfl)) (gqs_pss hG fun s8 H8 => (pss_one (ps_for PassesOwn.never (by rfl) (pi_range3 (by rfl) T.range (pa_cons (pe_op op_sub (pe_fldN S (pv 1)) pe_int) (pa_cons (pe_un un_neg pe_int) (pa_cons (pe_un un_neg pe_int) pa_nil)))) (pg_name (i := 7) sc_walk.nd rfl (Or.inl rfl)) (pss_cons (ps_set (i := 8) sc_walk.nd rfl (Or.inl rfl) (pe_has H_extended (hr.mono (by decide)) (pa_cons (pv 0) (pa_cons (pv 1) (pa_cons (pv 5) (pa_cons (pe_ix ix7L (pv 3) (pv 6) (fun _ _ => rfl)) (pa_cons (pv 7) (pa_cons (pv 2) pa_nil))))))))
      (pss_one (ps_if (pt_cmp (pc_notN (pv 8))) (pss_one (ps_expr (pe_l7 PySem.F.slot_list_append PySem.F.type_list_append app7 (pv 4) (pa_cons (pe_tup (pa_cons (pv 8) (pa_cons (pe_op op_add (pv 6) pe_int) pa_nil))) pa_nil)))) pss_nil)))))))))))), ?_⟩
  have big : 1000000 < sizeLine := by decide
  have hle := Sqt.le
  have nC : ∀ {l : Addr}, H l = none → ¬ (fun b => H b ≠ none) l := fun h z => z h
  -- steps
  refine gsq_ (gpl_ (callg_ (ea_cons (ev_v rfl) ea_nil) ⟨sa, t, rfl, hsa, Sqt, fun sl ss steps H1 s1 hsl0 hsl pst so few => ?_⟩))
  have nls : ¬ (fun b => H b ≠ none) sl := nC hsl0
  -- waiting
  refine gsq_ (gpl_ (sets_ (P := fun H' v => ∃ wl u, v = .ref wl ∧ H' wl = some (.lst [u]) ∧ H wl = none ∧ WR (fun b => H b ≠ none) wl H' u (List.replicate t.length (-1), 0)) (fun Q q => rs_rep (n := t.length) (z := -1) (ev_neg (ev_c (v := .int 1))) (fun H' s => ev_n (ev_v rfl) (hsa.same (s1.trans s))) (by omega) _ fun v2 H2 s2 ⟨il, e2, hil0, hil⟩ => ev_c _ ⟨by show 2 ≤ sizeLine; omega, fun a ha => ⟨by show 1 ≤ sizeLine; omega, fun wl hwl => q _ _ ((s2.trans (same_new ha)).trans (same_new hwl)) ⟨wl, .ref a, rfl, upd_same, s1.free (s2.free ((same_new ha).free hwl)), a, il, rfl, ?_, ?_, ?_, fun z => z (s1.free hil0)⟩⟩⟩) fun v2 H2 s2 ⟨wl, u, e2, hwl, hwl0, hwu⟩ => ?_))
  · rw [upd_ne (ne_of_none upd_same hwl), upd_same, e2]
    rfl
  · exact same_new hwl _ _ (same_new ha _ _ hil)
  · exact ne_of_none (same_new (o := .tup [v2, .int 0]) ha _ _ hil) hwl
  subst e2
  have nlw : ¬ (fun b => H b ≠ none) wl := nC hwl0
  have s12 := s1.trans s2
  have nsw : sl ≠ wl := fun z => by
    have h1 := s2 _ _ hsl
    rw [z, hwl] at h1
    injection h1 with h1
    injection h1 with h1
    subst h1
    have pst' := pst
    match steps, pst' with
    | [_], .cons r _ =>
      obtain ⟨a, kv, mv, e, h, _⟩ := r
      obtain ⟨a', il, e', h', _⟩ := hwu
      rw [e] at e'
      cases e'
      have h2 := s2 _ _ h
      rw [h'] at h2
      cases h2
  have hcost : cost t bt steps (List.replicate t.length (-1)) ≤ 625 := by
    refine Nat.le_trans (cost_le steps _) ?_
    have h1 : (bt.length + 1) ^ steps.length ≤ 5 ^ steps.length := Nat.pow_le_pow_left (by omega) _
    have h2 : 5 ^ steps.length ≤ 5 ^ 4 := Nat.pow_le_pow_right (by decide) (by omega)
    omega
  refine gone_ (gwhile_ (fun m i Hw σ H' => (Gd (fun b => H b ≠ none) Hw H' ∧ ∀ b, H b ≠ none → H' b ≠ none) ∧ SG C H' sa t ∧ SG C H' sb bt ∧ H' sl = some (.lst ss) ∧ Paired (StR H') ss steps ∧ (∃ p q r u', σ = [some sa, some sb, some (.bl false), some (.ref sl), some (.ref wl), p, q, r, u']) ∧
      ∃ us ws, H' wl = some (.lst us) ∧ Paired (WR (fun b => H b ≠ none) wl H') us ws ∧ (∀ e ∈ ws, VE t bt steps e) ∧ i + (ws.map (wO t bt steps)).sum = (homsL t bt).length ∧ m = (ws.map (wC t bt steps)).sum ∧ m ≤ 625)
    (cost t bt steps (List.replicate t.length (-1))) ⟨⟨fun b o e _ => s12 b o e, cov_same s12 (fun _ h => h)⟩, hsa.same s12, hsb.same s12, s2 _ _ hsl, strs_fx pst (fx_of s2), ⟨none, none, none, none, rfl⟩, [u], [(List.replicate t.length (-1), 0)], hwl, prd_one hwu, fun e he => ?_, ?_, ?_, hcost⟩ fun m i Hw σ H' h => ?_)
  · rw [List.mem_singleton.mp he]
    exact ⟨Nat.zero_le _, List.length_replicate .., fun z hz => (by cases hz), fun z hz => (by cases hz)⟩
  · show 0 + ((outs t bt steps (List.replicate t.length (-1))).length + 0) = _
    rw [outs_all Sqt Sqb so]
    omega
  · show _ = cost t bt steps (List.replicate t.length (-1)) + 0
    rfl
  obtain ⟨⟨gd, cov⟩, hsa3, hsb3, hsl3, pst3, ⟨p, q, r, u', rfl⟩, us, ws, hwl3, pw3, ve3, eM, em, hm⟩ := h
  have lwu := prd_len pw3
  refine ⟨_, et_t (ev_gtN (ev_lenL (ev_v rfl) hwl3) (ev_c (v := .int (0 : Nat)))), fun hb => ?_, fun hb => ?_⟩
  · obtain ⟨us', u, rfl⟩ := list_snoc (of_decide_eq_true hb)
    obtain ⟨ws', ⟨f7, k⟩, rfl, pw', hu⟩ := prd_snoc pw3
    obtain ⟨a, il, rfl, ha, hil, nil, ncl⟩ := hu
    have V := ve3 (f7, k) (List.mem_append_right _ (List.mem_singleton.mpr rfl))
    have naw : a ≠ wl := ne_of ha hwl3 (by intro z; cases z)
    rw [List.map_append, List.sum_append] at eM em
    have eM : i + ((ws'.map (wO t bt steps)).sum + ((outs t bt (steps.drop k) f7).length + 0)) = (homsL t bt).length := eM
    have em : m = (ws'.map (wC t bt steps)).sum + (cost t bt (steps.drop k) f7 + 0) := em
    have fx5 : Fx H' (upd H' wl (.lst us')) := fx_put hwl3
    refine gsq_ (gpl_ (popg_ (l := wl) (us := us') (u := .ref a) (ev_v rfl) hwl3 (tg2 rfl (by rw [upd_ne naw]; exact ha) ?_)))
    have gd5 := gd_put (o := HO.lst us') gd hwl3 nlw
    have cov5 : ∀ b, H b ≠ none → upd H' wl (.lst us') b ≠ none := cov_put cov
    have hil5 : upd H' wl (.lst us') il = some (.lst (zv f7)) := by rw [upd_ne nil]; exact hil
    have hsl5 : upd H' wl (.lst us') sl = some (.lst ss) := by rw [upd_ne nsw]; exact hsl3
    have hwl5 : upd H' wl (.lst us') wl = some (.lst us') := upd_same
    have pw5 := wrs_put (o := HO.lst us') pw' hwl3
    have pst5 := strs_fx pst3 fx5
    have hsa5 := hsa3.fx fx5
    have hsb5 := hsb3.fx fx5
    generalize upd H' wl (.lst us') = H5 at gd5 cov5 hil5 hsl5 hwl5 pw5 pst5 hsa5 hsb5
    have lss := prd_len pst5
    have ve5 : ∀ e ∈ ws', VE t bt steps e := fun e he => ve3 e (List.mem_append_left _ he)
    refine gone_ (gif_ (et_t (ev_eqN (ev_v (v := .int (k : Nat)) rfl) (ev_lenL (ev_v rfl) hsl5))) (fun hb => ?_) fun hb => ?_)
    · have hk := of_decide_eq_true hb
      have hdrop : steps.drop k = [] := by rw [hk, lss, List.drop_length]
      rw [hdrop] at eM em
      have eM : i + ((ws'.map (wO t bt steps)).sum + 1) = (homsL t bt).length := eM
      have em : m = (ws'.map (wC t bt steps)).sum + 1 := em
      refine gone_ (gyield_ (by show i < (homsL t bt).length; omega) (rs_tupR (ev_v rfl) hil5) fun x H6 s6 _ => ⟨gd_same gd5 s6, fun H7 wk => ?_⟩)
      have f67 := (fx_of s6).trans (fx_wk wk)
      exact ⟨(ws'.map (wC t bt steps)).sum, by omega, ⟨fun b o e _ => e, fun b h => wk.2 b (cov_same s6 cov5 b h)⟩, hsa5.fx f67, hsb5.fx f67, wk.1 _ _ (s6 _ _ hsl5) (.inl nls), strs_fx pst5 f67, ⟨_, _, _, _, rfl⟩, us', ws', wk.1 _ _ (s6 _ _ hwl5) (.inl nlw), wrs_wk (wrs_same pw5 s6) wk, ve5, by omega, rfl, by omega⟩
    · have hk : k < steps.length := by
        have h1 := of_decide_eq_false hb
        have h2 := V.le
        have h2 : k ≤ steps.length := h2
        omega
      obtain ⟨st, hst⟩ : ∃ st, steps[k]? = some st := ⟨_, List.getElem?_eq_getElem hk⟩
      have hdrop : steps.drop k = st :: steps.drop (k + 1) := drop_get hst
      rw [hdrop, outs_len] at eM
      rw [hdrop, cost_eq] at em
      obtain ⟨ok, ek⟩ := steps_at so hst
      refine gpl_ (forDn_ (n := bt.length) (ev_i2 (g := fun i j => .int (i - j)) (ev_n (ev_v rfl) hsb5) (ev_c (v := .int 1))) (ev_neg (ev_c (v := .int 1))) (ev_neg (ev_c (v := .int 1))) (by omega) (fun j σ H' => (Gd (fun b => H b ≠ none) Hw H' ∧ ∀ b, H b ≠ none → H' b ≠ none) ∧ SG C H' sa t ∧ SG C H' sb bt ∧ H' sl = some (.lst ss) ∧ Paired (StR H') ss steps ∧ H' il = some (.lst (zv f7)) ∧ (∃ r u', σ = [some sa, some sb, some (.bl false), some (.ref sl), some (.ref wl), some (.ref il), some (.int (k : Nat)), r, u']) ∧
        ∃ us ws, H' wl = some (.lst us) ∧ Paired (WR (fun b => H b ≠ none) wl H') us ws ∧ (∀ e ∈ ws, VE t bt steps e) ∧ i + (ws.map (wO t bt steps)).sum + ((List.range (bt.length - j)).map (cntO t bt (steps.drop (k + 1)) f7 st)).sum = (homsL t bt).length ∧ (ws.map (wC t bt steps)).sum + ((List.range (bt.length - j)).map (cntC t bt (steps.drop (k + 1)) f7 st)).sum + 1 = m)
        ⟨⟨gd5, cov5⟩, hsa5, hsb5, hsl5, pst5, hil5, ⟨_, _, rfl⟩, us', ws', hwl5, pw5, ve5, by rw [Nat.sub_zero]; omega, by rw [Nat.sub_zero]; omega⟩ (fun j σ H' hj h => ?_) fun σ H' h => ?_)
      · obtain ⟨⟨gd6, cov6⟩, hsa6, hsb6, hsl6, pst6, hil6, ⟨r, u', rfl⟩, us6, ws6, hwl6, pw6, ve6, eM6, em6⟩ := h
        obtain ⟨sv, hsv, hsr⟩ := prd_at pst6 hst
        have ej : bt.length - j = (bt.length - 1 - j) + 1 := by omega
        have ej2 : bt.length - (j + 1) = bt.length - 1 - j := by omega
        rw [ej, List.range_succ, List.map_append, List.sum_append] at eM6 em6
        have hy : bt.length - 1 - j < bt.length := by omega
        generalize bt.length - 1 - j = y at ej ej2 eM6 em6 hy
        have eM6 : i + (ws6.map (wO t bt steps)).sum + (((List.range y).map (cntO t bt (steps.drop (k + 1)) f7 st)).sum + (cntO t bt (steps.drop (k + 1)) f7 st y + 0)) = (homsL t bt).length := eM6
        have em6 : (ws6.map (wC t bt steps)).sum + (((List.range y).map (cntC t bt (steps.drop (k + 1)) f7 st)).sum + (cntC t bt (steps.drop (k + 1)) f7 st y + 0)) + 1 = m := em6
        have lus6 : us6.length ≤ (ws6.map (wC t bt steps)).sum := by
          rw [prd_len pw6]
          have : ∀ l : List (List Int × Nat), l.length ≤ (l.map (wC t bt steps)).sum := fun l => by
            induction l with
            | nil => exact Nat.zero_le _
            | cons e l ih =>
              have := cost_pos t bt (steps.drop e.2) e.1
              show l.length + 1 ≤ cost t bt (steps.drop e.2) e.1 + (l.map (wC t bt steps)).sum
              omega
          exact this ws6
        refine sq_ (callg_ (ea_cons (ev_v rfl) (ea_cons (ev_v rfl) (ea_cons (ev_v rfl) (ea_cons (ev_ixLv (ev_v rfl) hsl6 (ev_v rfl) hsv) (ea_cons (ev_v rfl) (ea_cons (ev_v rfl) ea_nil)))))) ⟨sa, sb, sv, il, t, bt, f7, endK [] (steps.take k), st, y, rfl, hsa6, hsb6, Sqt, Sqb, hil6, V.len, hsr, ok, V.rng, V.lt, hy, fun H7 s7 ex => ?_, fun l g H7 s7 hl0 hl ex => ?_⟩)
        · have c1 : cntO t bt (steps.drop (k + 1)) f7 st y = 0 := by unfold cntO; rw [ex]
          have c2 : cntC t bt (steps.drop (k + 1)) f7 st y = 0 := by unfold cntC; rw [ex]
          refine ifn_ (et_notnone (ev_v rfl) rfl) (fun z => nomatch z) fun _ => ?_
          rw [ej2]
          exact ⟨⟨gd_same gd6 s7, cov_same s7 cov6⟩, hsa6.same s7, hsb6.same s7, s7 _ _ hsl6, strs_fx pst6 (fx_of s7), s7 _ _ hil6, ⟨_, _, rfl⟩, us6, ws6, s7 _ _ hwl6, wrs_same pw6 s7, ve6, by omega, by omega⟩
        · have c1 : cntO t bt (steps.drop (k + 1)) f7 st y = (outs t bt (steps.drop (k + 1)) g).length := by unfold cntO; rw [ex]
          have c2 : cntC t bt (steps.drop (k + 1)) f7 st y = cost t bt (steps.drop (k + 1)) g := by unfold cntC; rw [ex]
          have cp := cost_pos t bt (steps.drop (k + 1)) g
          refine ifn_ (et_notnone (ev_v rfl) rfl) (fun _ => ?_) fun z => nomatch z
          have hwl7 := s7 _ _ hwl6
          refine app_ (l := wl) (xs := us6) (ev_v rfl) hwl7 (rs_tup2 (ev_v rfl) (ev_addN (ev_v rfl) (ev_c (v := .int (1 : Nat))))) (by omega) fun v8 H8 s8 ⟨tp, e8, htp0, htp⟩ => ?_
          subst e8
          have hwl8 := s8 _ _ hwl7
          have nlw8 : l ≠ wl := fun z => by rw [z, hwl6] at hl0; cases hl0
          have hlH : H l = none := Classical.byContradiction fun z => cov6 l z hl0
          have fx8 := (fx_of (s7.trans s8)).trans (fx_put (o := HO.lst (us6 ++ [L2.V.ref tp])) hwl8)
          rw [ej2]
          refine ⟨⟨gd_put (gd_same gd6 (s7.trans s8)) hwl8 nlw, cov_put (cov_same (s7.trans s8) cov6)⟩, hsa6.fx fx8, hsb6.fx fx8, by rw [upd_ne nsw]; exact s8 _ _ (s7 _ _ hsl6), strs_fx pst6 fx8, by rw [upd_ne nil]; exact s8 _ _ (s7 _ _ hil6), ⟨_, _, rfl⟩, us6 ++ [.ref tp], ws6 ++ [(g, k + 1)], upd_same, prd_app (wrs_put (wrs_same pw6 (s7.trans s8)) hwl8) (prd_one ⟨tp, l, rfl, ?_, ?_, nlw8, nC hlH⟩), fun e he => ?_, ?_, ?_⟩
          · rw [upd_ne (ne_of htp hwl8 (by intro z; cases z))]
            exact htp
          · rw [upd_ne nlw8]
            exact s8 _ _ hl
          · rcases List.mem_append.mp he with z | z
            · exact ve6 e z
            · rw [List.mem_singleton.mp z]
              exact ve_next Sqb so V hst hy ex
          · rw [List.map_append, List.sum_append]
            show i + ((ws6.map (wO t bt steps)).sum + ((outs t bt (steps.drop (k + 1)) g).length + 0)) + _ = _
            omega
          · rw [List.map_append, List.sum_append]
            show (ws6.map (wC t bt steps)).sum + (cost t bt (steps.drop (k + 1)) g + 0) + _ + 1 = _
            omega
      · obtain ⟨⟨gd6, cov6⟩, hsa6, hsb6, hsl6, pst6, hil6, ⟨r, u', rfl⟩, us6, ws6, hwl6, pw6, ve6, eM6, em6⟩ := h
        rw [Nat.sub_self] at eM6 em6
        exact ⟨(ws6.map (wC t bt steps)).sum, by simp at em6; omega, ⟨gd6, cov6⟩, hsa6, hsb6, hsl6, pst6, ⟨_, _, _, _, rfl⟩, us6, ws6, hwl6, pw6, ve6, by simpa using eM6, rfl, by omega⟩
  · have h0 : us = [] := List.eq_nil_of_length_eq_zero (by have := of_decide_eq_false hb; omega)
    subst h0
    cases pw3
    exact ⟨by simpa using eM, gd⟩
end
end W7
end
section
set_option Elab.async false
set_option linter.all false
set_option maxRecDepth 100000
set_option maxHeartbeats 1000000
/-! the body of a loop over a generator: the table of generators is not touched -/
namespace W7
open PySem PySem.Spec PyProof.Rows L2 K37
section
variable {X : Cx} {pins : List (Addr × Obj)} {σ : L2.St} {H : Hp} {s : Shared}
/-- what stands in a local's place is replaced; nothing else moves -/
theorem inv_local {h' : Heap} {m : Str → Option Value} {i : Nat} {x : Str} {v : V} {u : Value} {t' : Nat} (I : Inv X pins σ H s) (nd : X.N.Nodup) (hi : X.N[i]? = some x) (hk : X.env.scope.names.lookup x = some .local) (r : RelV v u)
    (hn : s.heap.Ns X.env.locals m) (hl : ∀ (j : Nat) (y : Str) (z : V), X.N[j]? = some y → σ[j]? = some (some z) → Vis X.env.scope y → ∃ w, RelV z w ∧ Look X.env s.heap m y w)
    (hn' : h'.Ns X.env.locals fun y => if y = x then some u else m y) (sb : Heap.SameBut X.env.locals s.heap h') : Inv X pins (σ.set i (some v)) H { s with heap := h', toks := t' } := by
  obtain ⟨oL, _, _, atL, _⟩ := id hn
  have old : ∀ {b o}, X.s_0.heap.get? b = some o → b ≠ X.env.locals := fun e z => by
    have a1 := Heap.lt_size e
    have a2 := I.ok.above
    rw [z] at a1
    exact Nat.lt_irrefl _ (Nat.lt_of_lt_of_le a1 a2)
  have il : i < σ.length := I.len ▸ (List.getElem?_eq_some_iff.mp hi).1
  constructor
  · exact I.ok
  · exact I.os
  · exact I.bare
  · constructor
    · intro b o e n f g
      rw [sb.2 b (old e)]
      exact I.base.keep b o e n f g
    · intro b o e n f g
      rw [sb.2 b (old e)]
      exact I.base.slot b o e n f g
    · exact I.base.free
    · intro b o e g
      rw [sb.2 b (old e)]
      exact I.base.there b o e g
    · exact I.base.tups
    · exact I.base.frzs
    · exact I.base.tbls
  · refine ⟨_, hn', fun j y z e1 e2 e3 => ?_⟩
    by_cases q : j = i
    · subst q
      rw [hi] at e1
      cases e1
      rw [List.getElem?_set_self il] at e2
      cases e2
      exact ⟨u, r, Or.inl ⟨hk, if_pos rfl⟩⟩
    · rw [List.getElem?_set_ne fun z => q z.symm] at e2
      obtain ⟨w, rw', lk⟩ := hl j y z e1 e2 e3
      have ne : y ≠ x := fun e => q (nodup_ix nd e1 (e ▸ hi))
      refine ⟨w, rw', ?_⟩
      rcases lk with ⟨k, e⟩ | ⟨k, c, e, ce⟩
      · exact Or.inl ⟨k, (if_neg ne).trans e⟩
      · exact Or.inr ⟨k, c, e, ce.sameBut sb (I.cne y c e)⟩
  · intro y c e
    obtain ⟨w, ce⟩ := I.cell y c e
    exact ⟨w, ce.sameBut sb (I.cne y c e)⟩
  · exact I.free
  · exact I.freeC
  · intro p hp
    obtain ⟨a, b, c, d⟩ := I.pin p hp
    exact ⟨by rw [sb.2 p.1 c]; exact a, b, c, d⟩
  · intro b o e
    have ne : ∀ {c}, c = b ∨ H c = some (.own b) → c ≠ X.env.locals := fun hc z => by
      have fr := I.free
      rcases hc with q | q
      · rw [← q, z, fr] at e
        cases e
      · rw [z, fr] at q
        cases q
    exact (I.hok b o e).stay (fun c w hc q => by rw [sb.2 c (ne hc)]; exact q) (fun _ q => q) fun _ _ q => q
  · rw [List.length_set]
    exact I.len
theorem store_k {i : Nat} {x : Str} {v : V} {u : Value} {M : Model} {A : Around} {E : Value → Shared → Prop} {Q : Unit → Shared → Prop} (I : Inv X pins σ H s) (nd : X.N.Nodup) (hi : X.N[i]? = some x) (hk : X.env.scope.names.lookup x = some .local) (r : RelV v u)
    (h : ∀ s', s'.gens = s.gens → Inv X pins (σ.set i (some v)) H s' → Q () s') : wpAny M A (storeName X.env x u) Q E s := by
  obtain ⟨m, hn, hl⟩ := id I.loc
  refine wpAny_storeName_local hk hn (fun h' hn' sb => h _ rfl (inv_local I nd hi hk r hn hl hn' sb)) ?_
  rw [I.ok.kind]
  rfl
end
structure PEk (X : Cx) (e : Expr) (t : TE) : Prop where
  run : ∀ (pins : List (Addr × Obj)) (s : Shared) (σ : L2.St) (H : Hp) (Q : VK), Inv X pins σ H s → t σ H Q → wpAny (model X.prog X.w) X.A (eval e X.env) (fun u s' => s'.gens = s.gens ∧ EP X pins σ Q u s') X.xe s
section
variable {X : Cx}
theorem pek_local {i : Nat} {x : Str} {pos : Pos} (hN : X.N[i]? = some x) (hk : X.env.scope.names.lookup x = some .local) (hd : (x == ("__debug__" : Str)) = false := by decide) : PEk X (.Name x pos) (tVar i) := by
  constructor
  rintro pins s σ H Q I ⟨v, e, h⟩
  obtain ⟨m, hn, hl⟩ := I.loc
  obtain ⟨u, r, lk⟩ := hl i x v hN e (.inl hk)
  rcases lk with ⟨k, hm⟩ | ⟨k, _⟩
  · exact wpAny_Name (wpAny_loadName_local I.ok.kind k hn hm ⟨rfl, v, H, I, r, h⟩) hd
  · have k0 : X.env.kindOf x = some .local := hk
    rw [k0] at k
    rcases k with k | k <;> cases k
theorem pek_glob {x : Str} {v : V} {u : Value} {pos : Pos} (hg : Gl X x) (hm : X.mg x = some u) (r : RelV v u) (hd : (x == ("__debug__" : Str)) = false := by decide) : PEk X (.Name x pos) (tC v) := by
  constructor
  intro pins s σ H Q I h
  exact ld_glob I hg hm ⟨rfl, v, H, I, r, h⟩ hd
theorem pek_len {e : Expr} {te : TE} {p pos : Pos} (hg : Gl X "len") (hm : X.mg "len" = none) (he : PEk X e te) (hs : starEach [e] X.env = (false, eval e X.env) :: starEach [] X.env := by rfl) : PEk X (.Call (.Name "len" p) [e] [] pos) (tCB rLen7 (tCons te tNil)) := by
  constructor
  intro pins s σ H Q I h
  refine wpAny_Call_Name_kw (ld_blt I hg hm boot_len ?_)
  refine PyProof.Rows.callWith_builtin1 ?_ hs rfl
  rw [hs]
  show wpAny _ _ (spliced ((false, eval e X.env) :: backTo pos (starEach [] X.env))) _ _ s
  refine Calls.spliced_cons (thn (he.run pins s σ H _ I h) fun u s1 hx => Calls.spliced_nil ?_)
  obtain ⟨e1, x, H1, I1, r1, ls, xs, ex, hh, q⟩ := hx
  have ex2 : x = .ref ls := by injection ex
  subst ex2
  cases r1
  rcases hh with hh | hh
  · obtain ⟨its, r', pl, hz⟩ := I1.list (SqL.of hh)
    have hlen := r'.length
    have := line63
    exact Calls.call_len_list pl.isList (by simp only [List.size_toArray]; omega) ⟨e1, .int xs.length, H1, I1.tok _, ⟨s1.toks + 1, by rw [List.size_toArray, hlen]⟩, q⟩
  · obtain ⟨its, r', pl, hz⟩ := I1.tuple (SqT.of hh)
    have hlen := r'.length
    have := line63
    exact len_tuple pl (by simp only [List.size_toArray]; omega) ⟨e1, .int xs.length, H1, I1.tok _, ⟨s1.toks + 1, by rw [List.size_toArray, hlen]⟩, q⟩
/-- a > b as a test -/
theorem ptk_gt {a b : Expr} {ta tb : TE} {pos : Pos} (ha : PEk X a ta) (hb : PEk X b tb) (pins : List (Addr × Obj)) (s : Shared) (σ : L2.St) (H : Hp) (Q : Bool → Hp → Prop) (I : Inv X pins σ H s) (h : tTest (tOp (rI0 fun i j => .bl (decide (j < i))) ta tb) σ H Q) :
    wpAny (model X.prog X.w) X.A (isTrue (.Compare a [.Gt] [b] pos) X.env (eval (.Compare a [.Gt] [b] pos) X.env)) (fun c s' => s'.gens = s.gens ∧ ∃ H', Inv X pins σ H' s' ∧ Q c H') X.xe s := by
  refine wpAny_isTrue_Compare1 (thn (ha.run pins s σ H _ I h) fun v s1 h1 => thn (hb.run pins s1 σ _ _ h1.2.choose_spec.choose_spec.1 h1.2.choose_spec.choose_spec.2.2) fun u s2 h2 => ?_) (nomark _)
  obtain ⟨g1, h1⟩ := h1
  obtain ⟨g2, y, H2, I2, r2, i, j, ex, ey, k, ek, q⟩ := h2
  generalize hx : h1.choose = x at ex
  have r1 := h1.choose_spec.choose_spec.2.1
  rw [hx] at r1
  subst ex ey
  obtain ⟨t1, rfl⟩ := r1
  obtain ⟨t2, rfl⟩ := r2
  injection ek with ek
  subst ek
  exact gt_int (wpAny_truthy_bool ⟨g2.trans g1, H2, I2, q⟩)
/-- xs.append(y) -/
theorem psk_app {o e : Expr} {to te : TE} {apos cpos pos : Pos} (ho : PEk X o to) (he : PEk X e te)
    (hbase : attributeBase o "append" X.env (eval o X.env) = eval o X.env := by rfl)
    (hfew : ((backTo cpos (starEach [e] X.env)).all (fun x => !x.1) && (backToKw cpos (keywordEach [] X.env)).all (fun x => x.1.isSome) && decide ([e].length + ([] : List Keyword).length + (if ([] : List Keyword).isEmpty then 0 else 1) < 30)) = true := by rfl)
    (hline : (apos.endLine == cpos.line) = true := by rfl) (hs : starEach [e] X.env = (false, eval e X.env) :: starEach [] X.env := by rfl) (hsw : swapsWith (.Call (.Attribute o "append" apos) [e] [] cpos) none pos.line X.env = pure false := by rfl)
    (pins : List (Addr × Obj)) (s : Shared) (σ : L2.St) (H : Hp) (D : L2.St → Hp → Prop) (I : Inv X pins σ H s) (h : tM isL rApp7 to (tCons te tNil) σ H fun _ H' => D σ H') :
    wpAny (model X.prog X.w) X.A (exec (.Expr (.Call (.Attribute o "append" apos) [e] [] cpos) pos) X.env) (fun f s' => f = .next ∧ s'.gens = s.gens ∧ ∃ H', Inv X pins σ H' s' ∧ D σ H') X.xe s := by
  refine wpAny_Expr_any ?_ I.quiet hsw
  refine wpAny_Call_method_late hbase hfew hline rfl (thn (ho.run pins s σ H _ I h) fun v s1 hx => ?_)
  obtain ⟨g1, x, H1, I1, r1, ty, q1⟩ := hx
  obtain ⟨h1, h2⟩ := tyV_is I1 r1 (isL_ty ty)
  refine ⟨_, _, PySem.F.plainAttrs_list, PySem.F.slot_list_append, PySem.F.type_list_append, h1, h2, ?_⟩
  rw [hs]
  refine Calls.callWith_builtin rfl (Calls.evalArgs_plain ?_)
  show wpAny _ _ (spliced ((false, eval e X.env) :: backTo cpos (starEach [] X.env))) _ _ s1
  refine Calls.spliced_cons (thn (he.run pins s1 σ H1 _ I1 q1) fun u s2 hy => Calls.spliced_nil ?_)
  obtain ⟨g2, y, H2, I2, r2, l, ys, y', ex, ev, hl, hz, q⟩ := hy
  subst ex
  injection ev with ev _
  subst ev
  cases r1
  obtain ⟨z, its, n, rr, hlen, at2⟩ := I2.lstM hl
  refine call_meets F.slot_list_append ⟨_, at2, rfl⟩ F.entry_list_append (F.args_list_append_2 _ _) (PySem.list_append l its.toArray n u (by rw [List.size_toArray]; omega)) ⟨at2, ?_⟩
  refine ⟨rfl, g2.trans g1, _, I2.lset (its' := its ++ [u]) hl at2 (by simp) (rr.append (.cons r2 .nil)) ?_, q⟩
  rw [List.length_append, List.length_singleton]
  omega
end
end W7
end
section
set_option Elab.async false
set_option linter.all false
set_option maxRecDepth 100000
set_option maxHeartbeats 1000000
namespace W7
open PySem PySem.Spec PyProof.Rows L2 RZ K37 K37E M7
def tqG (i : Nat) (to te tl tr : TE) : V → L2.St → Hp → (L2.St → Hp → Prop) → Prop := fun x σ H k => tM isL rApp7 to (tCons te tNil) (σ.set i (some x)) H fun _ H2 => tTest (tOp (rI0 fun i j => .bl (decide (j < i))) tl tr) (σ.set i (some x)) H2 fun b H3 => b = false ∧ k (σ.set i (some x)) H3
theorem qb_gath {X : Cx} {i : Nat} {x : Str} {o e l r : Expr} {to te tl tr : TE} {p ap cp pos cpos ipos : Pos} {sts : List Stmt} (nd : X.N.Nodup) (hi : X.N[i]? = some x) (hk : X.env.scope.names.lookup x = some .local) (ho : PEk X o to) (he : PEk X e te) (hl : PEk X l tl) (hr : PEk X r tr)
    (hbase : attributeBase o "append" X.env (eval o X.env) = eval o X.env := by rfl)
    (hfew : ((backTo cp (starEach [e] X.env)).all (fun x => !x.1) && (backToKw cp (keywordEach [] X.env)).all (fun x => x.1.isSome) && decide ([e].length + ([] : List Keyword).length + (if ([] : List Keyword).isEmpty then 0 else 1) < 30)) = true := by rfl)
    (hline : (ap.endLine == cp.line) = true := by rfl) (hs : starEach [e] X.env = (false, eval e X.env) :: starEach [] X.env := by rfl) (hsw : swapsWith (.Call (.Attribute o "append" ap) [e] [] cp) none pos.line X.env = pure false := by rfl) :
    QB X (.Name x p) [.Expr (.Call (.Attribute o "append" ap) [e] [] cp) pos, .If (.Compare l [.Gt] [r] cpos) sts [] ipos] (tqG i to te tl tr) := by
  constructor
  intro pins s σ H v u Q I rv h
  refine wpAny_assign_Name (store_k I nd hi hk rv fun s1 g1 I1 => ?_)
  refine wpAny_execs_cons (thn (psk_app (D := fun _ H2 => tTest (tOp (rI0 fun i j => .bl (decide (j < i))) tl tr) (σ.set i (some v)) H2 fun b H3 => b = false ∧ Q (σ.set i (some v)) H3) ho he hbase hfew hline hs hsw pins s1 _ H I1 h) fun f s2 h2 => ?_)
  obtain ⟨rfl, g2, H2, I2, q2⟩ := h2
  refine wpAny_execs_cons (wpAny_If (thn (ptk_gt hl hr pins s2 _ H2 _ I2 q2) fun b s3 h3 => ?_))
  obtain ⟨g3, H3, I3, eb, q3⟩ := h3
  subst eb
  exact wpAny_execs_nil (wpAny_execs_nil ⟨.inl rfl, (g3.trans g2).trans g1, _, H3, I3, q3⟩)
section
variable {P : Program} {w : World} {K : PySem.W.Frag} {mg : Str → Option Value} {base : Heap} {C : Addr}
theorem ps_forG7 {X : Cx} {k : Nat} {ps : List Str} {sp : SpG7} {nm : Str} {tg e : Expr} {es : List Expr} {body : List Stmt} {p pos pos' : Pos} {ta : TA} {tq : V → L2.St → Hp → (L2.St → Hp → Prop) → Prop}
    (F : GHas X.prog X.w X.K X.mg X.base nm ps k sp) (hp : PassesOwn (model X.prog X.w) X.A X.env X.xe) (hcalm : X.calm = true) (hr : Room k X.A) (ha : PA X (e :: es) ta) (hq : QB X tg body tq) (hg : Gl X nm := by rfl) (hdb : (nm == ("__debug__" : Str)) = false := by decide)
    (he : starEach (e :: es) X.env = (false, eval e X.env) :: starEach es X.env := by rfl) (hpl : (backTo pos' (starEach es X.env)).any (·.1) = false := by rfl) (hs : ∀ x, foldedSetIterable (.Call (.Name nm p) (e :: es) [] pos') X.env x = pure x := by intro _; rfl) :
    PS X (.For tg (.Call (.Name nm p) (e :: es) [] pos') body [] pos) (tForG sp ta tq) := by
  obtain ⟨f, fd, g, kp, b, G⟩ := F.ex
  exact ps_forGen hp hcalm G hr hg g kp b ha hq hdb he hpl hs
theorem mapp_ {σ : L2.St} {H : Hp} {to te : TE} {l : Addr} {xs : List V} {v : V} {Q : VK} (ho : Ev to σ H (.ref l)) (h : H l = some (.lst xs)) (he : Ev te σ H v) (hs : xs.length < sizeLine) (k : Q .non (upd H l (.lst (xs ++ [v])))) : tM isL rApp7 to (tCons te tNil) σ H Q := ho _ ⟨⟨l, xs, rfl, h⟩, he _ ⟨l, xs, v, rfl, rfl, h, hs, k⟩⟩
theorem rs_call2s {sp : Sp} {σ : L2.St} {H : Hp} {ta tb : TE} {v : V} {P P' : Hp → V → Prop} (ha : Rs ta σ H P) (hb : ∀ H', Same H H' → Ev tb σ H' v) (k : ∀ u H', Same H H' → P H' u → ∀ Q : VK, (∀ v H'', Same H' H'' → P' H'' v → Q v H'') → sp [u, v] H' Q E0) : Rs (tCall sp [] E0 (tCons ta (tCons tb tNil))) σ H P' := fun Q q => ha _ fun u H1 s1 h1 => hb H1 s1 _ (k u H1 s1 h1 _ fun v H2 s2 h2 => q v H2 (s1.trans s2) h2)
theorem forG_ {nx bk ct : L2.St → Hp → Prop} {rt : VK} {σ : L2.St} {H : Hp} {sp : SpG7} {ta : TA} {tq : V → L2.St → Hp → (L2.St → Hp → Prop) → Prop} {vs : List V} (h : Ea ta σ H vs) (M : Nat) (B : Nat → L2.St → Hp → Prop) (hsp : sp vs H M) (b0 : B 0 σ H)
    (turn : ∀ i x σ' H' H'', i < M → B i σ' H' → Gd (fun b => H b ≠ none) H' H'' → tq x σ' H'' fun σ3 H3 => B (i + 1) σ3 H3 ∧ Wk (fun b => H b ≠ none) H'' H3) (fin : ∀ σ' H' H'', B M σ' H' → Gd (fun b => H b ≠ none) H' H'' → nx σ' H'') : tForG sp ta tq ⟨nx, rt, bk, ct⟩ σ H := h _ ⟨M, B, hsp, b0, turn, fin⟩
def spGath (C : Addr) : Sp := fun vs H Q _ => ∃ (sa sb : V) (t bt : List (List Nat)), vs = [sa, sb, .bl false] ∧ SG C H sa t ∧ SG C H sb bt ∧ Sq t ∧ Sq bt ∧ t.length ≤ 4 ∧ bt.length ≤ 4 ∧ ∀ l us H', Same H H' → H' l = some (.lst us) → us.length = (homsL t bt).length → Q (.ref l) H'
theorem sc_gathered : FnScope ["a", "b", "unlike", "found", "images"] ["a", "b", "unlike"] (defScope s_gathered) := ⟨rfl, rfl, rfl, by decide +kernel, rfl, by decide +kernel, by decide +kernel⟩
theorem h_gathered {tk : Tok} (D : Dfn K mg "gathered" s_gathered) (T : Bl mg) (gM50000 : mg "MOST_homs" = some (.int 50000 tk)) (H_walk : GHas P w K mg base "walk" ["a", "b", "unlike"] 4 (spWalk C)) : Has P w K mg base "gathered" ["a", "b", "unlike"] 5 (spGath C) := by
  refine D.has sc_gathered (fun _ _ _ _ _ _ us hl => match us, hl with | [_, _, _], _ => rfl) (fun vs H Q E h => by obtain ⟨_, _, _, _, rfl, _⟩ := h; rfl) (fun f cdv A outer s H vs Q E hr h => ⟨_, pss_cons (ps_set (i := 3) sc_gathered.nd rfl (Or.inl rfl) (pe_lst pa_nil))
    (pss_cons (ps_forG7 H_walk PassesOwn.never rfl (hr.mono (by decide)) (pa_cons (pv 0) (pa_cons (pv 1) (pa_cons (pv 2) pa_nil)))
      (qb_gath (i := 4) sc_gathered.nd rfl rfl (pek_local (i := 3) rfl rfl) (pek_local (i := 4) rfl rfl) (pek_len rfl T.len (pek_local (i := 3) rfl rfl)) (pek_glob (v := .int 50000) rfl gM50000 ⟨_, rfl⟩)))
    (pss_one (ps_ret (pv 3)))), ?_⟩)
  obtain ⟨sa, sb, t, bt, rfl, hsa, hsb, Sqt, Sqb, h4, hb4, q⟩ := h
  have few : (homsL t bt).length ≤ 256 := by
    refine Nat.le_trans homs_le ?_
    have h1 : bt.length ^ t.length ≤ 4 ^ t.length := Nat.pow_le_pow_left hb4 _
    have h2 : 4 ^ t.length ≤ 4 ^ 4 := Nat.pow_le_pow_right (by decide) h4
    omega
  have big : 1000000 < sizeLine := by decide
  refine sq_ (sets_ rs_lst0 fun v1 H1 s1 ⟨fl, e1, hfl0, hfl⟩ => ?_)
  subst e1
  have cl : ∀ {H' H'' : Hp} {b o}, Gd (fun b => H1 b ≠ none) H' H'' → H1 b ≠ none → H' b = some o → H'' b = some o := fun g n e => g _ _ e (.inl n)
  have nf : H1 fl ≠ none := by rw [hfl]; exact fun z => nomatch z
  have nH : ∀ {b o}, H b = some o → H1 b ≠ none := fun e => by rw [s1 _ _ e]; exact fun z => nomatch z
  refine sq_ (forG_ (ea_cons (ev_v rfl) (ea_cons (ev_v rfl) (ea_cons (ev_v rfl) ea_nil))) (homsL t bt).length (fun i σ H' => Same H H' ∧ ∃ img us, σ = [some sa, some sb, some (.bl false), some (.ref fl), img] ∧ H' fl = some (.lst us) ∧ us.length = i)
    ⟨sa, sb, t, bt, rfl, hsa.same s1, hsb.same s1, Sqt, Sqb, h4, hb4, rfl⟩ ⟨s1, none, [], rfl, hfl, rfl⟩ (fun i x σ' H' H'' hi h g => ?_) fun σ' H' H'' h g => ?_)
  · obtain ⟨s2, img, us, rfl, hus, lu⟩ := h
    have hus2 := cl g nf hus
    have s3 : Same H H'' := fun b o e => cl g (nH e) (s2 b o e)
    unfold tqG
    refine mapp_ (l := fl) (xs := us) (v := x) (ev_v rfl) hus2 (ev_v rfl) (by omega) ?_
    have e4 : upd H'' fl (.lst (us ++ [x])) fl = some (.lst (us ++ [x])) := upd_same
    refine et_of (b := false) (et_t (ev_gtN (ev_lenL (ev_v (i := 3) (v := .ref fl) rfl) e4) (ev_c (v := .int (50000 : Nat))))) (decide_eq_false (by rw [List.length_append, List.length_singleton]; omega)) _ ⟨rfl, ⟨same_put s3 hfl0, _, us ++ [x], rfl, e4, by rw [List.length_append, List.length_singleton, lu]⟩, fun b o e c => ?_, fun b e => ?_⟩
    · rw [upd_ne]
      · exact e
      · intro z
        subst z
        rcases c with c | ⟨ys, rfl⟩ | ⟨_, _, _, rfl⟩ | ⟨_, _, rfl⟩
        · exact c nf
        · rw [hus2] at e; cases e
        · rw [hus2] at e; cases e
        · rw [hus2] at e; cases e
    · by_cases z : b = fl
      · rw [z, upd_same]; exact fun z => nomatch z
      · rw [upd_ne z]; exact e
  · obtain ⟨s2, img, us, rfl, hus, lu⟩ := h
    exact ret_ (ev_v rfl) (q fl us H'' (fun b o e => cl g (nH e) (s2 b o e)) (cl g nf hus) lu)
def spHoms (C : Addr) : Sp := fun vs H Q _ => ∃ (sa sb : V) (t bt : List (List Nat)), vs = [sa, sb] ∧ SG C H sa t ∧ SG C H sb bt ∧ Sq t ∧ Sq bt ∧ t.length ≤ 4 ∧ bt.length ≤ 4 ∧ ∀ H', Same H H' → Q (.int ((homsL t bt).length : Nat)) H'
theorem sc_count_homomorphisms : FnScope ["a", "b"] ["a", "b"] (defScope s_count_homomorphisms) := ⟨rfl, rfl, rfl, by decide +kernel, rfl, by decide +kernel, by decide +kernel⟩
theorem h_count_homomorphisms (D : Dfn K mg "count_homomorphisms" s_count_homomorphisms) (T : Bl mg) (H_gathered : Has P w K mg base "gathered" ["a", "b", "unlike"] 5 (spGath C)) : Has P w K mg base "count_homomorphisms" ["a", "b"] 6 (spHoms (C)) := by
  refine D.has sc_count_homomorphisms (fun _ _ _ _ _ _ us hl => match us, hl with | [_, _], _ => rfl) (fun vs H Q E h => by obtain ⟨sa, sb, t, bt, rfl, _⟩ := h; rfl) (fun f cdv A outer s H vs Q E hr h => ⟨_, (pss_one (ps_ret (pe_callB len7 (by rfl) T.len (by decide +kernel) (pa_cons (pe_has H_gathered (hr.mono (by decide)) (pa_cons (pv 0) (pa_cons (pv 1) (pa_cons pe_bl pa_nil)))) pa_nil)))), ?_⟩)
  obtain ⟨sa, sb, t, bt, rfl, hsa, hsb, Sqt, Sqb, h4, hb4, q⟩ := h
  refine rets_ (rs_lenL (n := (homsL t bt).length) (rs_call (P := fun H' v => ∃ a us, v = .ref a ∧ H' a = some (.lst us) ∧ us.length = (homsL t bt).length) (ea_cons (ev_v rfl) (ea_cons (ev_v rfl) (ea_cons ev_c ea_nil))) fun Q q => ⟨sa, sb, t, bt, rfl, hsa, hsb, Sqt, Sqb, h4, hb4, fun l us H' s e hl => q _ H' s ⟨l, us, rfl, e, hl⟩⟩) fun H' v h => h) fun v H' s e => e ▸ q H' s
def spCbc (C : Addr) : Sp := fun vs H Q _ => ∃ (sa sb : V) (t bt : List (List Nat)), vs = [sa, sb] ∧ SG C H sa t ∧ SG C H sb bt ∧ Sq t ∧ Sq bt ∧ Assoc t ∧ t.length ≤ 4 ∧ bt.length ≤ 4 ∧ ∀ H', Same H H' → Q (.int (((homsL t bt).filter fun f => decide (ker f = List.range t.length)).length : Nat)) H'
theorem isum_range_succ (f : Nat → Int) (n : Nat) : isum ((List.range (n + 1)).map f) = isum ((List.range n).map f) + f n := by
  rw [List.range_succ, List.map_append, isum_append]
  show _ + (f n + 0) = _
  omega
theorem quot_le {t : List (List Nat)} {c : List Nat} (C : IsCong t c) : (quot t c).length ≤ t.length := by
  unfold quot
  rw [List.length_map]
  have := heads_le c
  rw [C.canon.len] at this
  exact this
theorem augs_ {nx bk ct : L2.St → Hp → Prop} {rt : VK} {σ : L2.St} {H : Hp} {te : TE} {i : Nat} {a b : Int} (ha : σ[i]? = some (some (.int a))) (h : Rs te σ H fun _ v => v = .int b) (k : ∀ H', Same H H' → nx (σ.set i (some (.int (a + b)))) H') : tAug i te (ipI fun i j => i + j) ⟨nx, rt, bk, ct⟩ σ H := ⟨_, ha, h _ fun v H' s e => ⟨a, b, rfl, e, k H' s⟩⟩
theorem sc_count_by_congruences : FnScope ["a", "b", "total", "c", "m"] ["a", "b"] (defScope s_count_by_congruences) := ⟨rfl, rfl, rfl, by decide +kernel, rfl, by decide +kernel, by decide +kernel⟩
theorem h_count_by_congruences (D : Dfn K mg "count_by_congruences" s_count_by_congruences) (T : Bl mg) (H_congruences : Has P w K mg base "congruences" ["s"] 6 (spCongs C)) (H_moebius_numbers : Has P w K mg base "moebius_numbers" ["s"] 7 (spMoeb C)) (H_quotient : Has P w K mg base "quotient" ["s", "classes"] 6 (spQuot C)) (H_count_homomorphisms : Has P w K mg base "count_homomorphisms" ["a", "b"] 6 (spHoms C)) : Has P w K mg base "count_by_congruences" ["a", "b"] 8 (spCbc (C)) := by
  refine D.has sc_count_by_congruences (fun _ _ _ _ _ _ us hl => match us, hl with | [_, _], _ => rfl) (fun vs H Q E h => by obtain ⟨sa, sb, t, bt, rfl, _⟩ := h; rfl) (fun f cdv A outer s H vs Q E hr h => ⟨_, (pss_cons (ps_set (i := 2) sc_count_by_congruences.nd rfl (Or.inl rfl) pe_int)
      (pss_cons (ps_for PassesOwn.never (by rfl) (pi_zipA (by rfl) T.zip (pa_cons (pe_has H_congruences (hr.mono (by decide)) (pa_cons (pv 0) pa_nil)) (pa_cons (pe_has H_moebius_numbers (hr.mono (by decide)) (pa_cons (pv 0) pa_nil)) pa_nil))) (pg7 (n := 2) K (by rfl) (pgs_cons (pg_name (i := 3) sc_count_by_congruences.nd rfl (Or.inl rfl)) (pgs_cons (pg_name (i := 4) sc_count_by_congruences.nd rfl (Or.inl rfl)) pgs_nil))) (pss_one (ps_aug (i := 2) sc_count_by_congruences.nd rfl (Or.inl rfl) (pe_op op_mul (pv 4) (pe_has H_count_homomorphisms (hr.mono (by decide)) (pa_cons (pe_has H_quotient (hr.mono (by decide)) (pa_cons (pv 0) (pa_cons (pv 3) pa_nil))) (pa_cons (pv 1) pa_nil)))) ip_add)))
      (pss_one (ps_ret (pv 2))))), ?_⟩)
  obtain ⟨sa, sb, t, bt, rfl, hsa, hsb, Sqt, Sqb, As, h4, hb4, q⟩ := h
  refine sq_ (set_ ev_c (sq_ ?_))
  have few := congs_few h4
  refine rs_call (P := fun H' u => Tt H' u (congs t)) (ea_cons (ev_v rfl) ea_nil) (fun Q q => ⟨sa, t, rfl, hsa, Sqt, h4, fun u H' s h => q u H' s h⟩) _ fun cv H1 s1 hcv => ?_
  refine rs_call (P := fun H' u => ∃ mu, TuZ H' u mu ∧ MoebOk t.length (congs t) mu) (ea_cons (ev_v rfl) ea_nil) (fun Q q => ⟨sa, t, rfl, hsa.same s1, Sqt, h4, fun u mu H' s h m => q u H' s ⟨mu, h, m⟩⟩) _ fun mv H2 s2 ⟨mu, hmu, MO⟩ => ?_
  obtain ⟨ca, cvs, rfl, hca, pc⟩ := hcv.same s2
  obtain ⟨ma, rfl, hma⟩ := hmu
  have lc := prd_len pc
  refine ⟨ca, ma, cvs, mu.map V.int, rfl, .inr ⟨.of hca, .of hma, ?_⟩⟩
  refine for_zipT (K := K) (xs := cvs) (ys := mu.map V.int) (by rw [List.length_map, MO.len, lc]) (fun i σ H' => Same H2 H' ∧ ∃ a b, σ = [some sa, some sb, some (.int (isum ((List.range i).map fun i => ati mu i * ((homsL (quot t (rowAt (congs t) i)) bt).length : Int)))), a, b]) ⟨Same.refl _, none, none, rfl⟩ (fun i σ H' h => ⟨.of (h.1 _ _ hca), .of (h.1 _ _ hma)⟩) (fun i x y T7 σ H' hx hy h hT => ?_) fun σ H' h => ?_
  · obtain ⟨s3, a, b, rfl⟩ := h
    obtain ⟨c, hc, hxc⟩ := prd_at' pc hx
    have hi : i < (congs t).length := (List.getElem?_eq_some_iff.mp hc).1
    have er : rowAt (congs t) i = c := by
      rw [getD_at (d := []) hi] at hc
      exact Option.some.inj hc
    have Cc := mem_congs.mp (List.mem_of_getElem? hc)
    have hy2 : y = .int (ati mu i) := by
      rw [List.getElem?_map] at hy
      have hl : i < mu.length := by rw [MO.len]; exact hi
      rw [List.getElem?_eq_getElem hl] at hy
      have e := Option.some.inj hy
      rw [← e]
      unfold ati
      rw [List.getD_eq_getElem?_getD, List.getElem?_eq_getElem hl]
      rfl
    subst hy2
    have s4 := s3.trans (same_new (o := .tup [x, .int (ati mu i)]) hT)
    have s24 := (s1.trans s2).trans s4
    refine tg2 rfl upd_same ?_
    have hql := quot_le Cc
    refine augs_ (b := ati mu i * ((homsL (quot t c) bt).length : Int)) rfl (fun Q q => ev_v (i := 4) rfl _ (rs_call2s (P := fun H' u => SG C H' u (quot t c)) (rs_call (P := fun H' u => SG C H' u (quot t c)) (ea_cons (ev_v rfl) (ea_cons (ev_v rfl) ea_nil)) fun Q q => ⟨sa, x, t, c, rfl, hsa.same s24, Sqt, As, hxc.same s4, Cc, fun u H' s h => q u H' s h⟩) (fun H' s => ev_v (v := sb) rfl) (fun u H5 s5 hu Q q => ⟨u, sb, quot t c, bt, rfl, hu, hsb.same (s24.trans s5), quot_sq Sqt Cc, Sqb, by omega, hb4, fun H' s => q _ H' s rfl⟩) _ fun v6 H6 s6 e6 => ?_)) fun H7 s7 => ?_
    · have hb256 : (homsL (quot t c) bt).length ≤ 256 := by
        refine Nat.le_trans homs_le ?_
        have h1 : bt.length ^ (quot t c).length ≤ 4 ^ (quot t c).length := Nat.pow_le_pow_left hb4 _
        have h2 : 4 ^ (quot t c).length ≤ 4 ^ 4 := Nat.pow_le_pow_right (by decide) (by omega)
        omega
      exact ⟨ati mu i, ((homsL (quot t c) bt).length : Nat), rfl, e6.symm, .inr ⟨by omega, by omega⟩, q _ H6 s6 rfl⟩
    · refine ⟨s4.trans s7, some x, some (.int (ati mu i)), ?_⟩
      rw [isum_range_succ, er]
      rfl
  · obtain ⟨s3, a, b, rfl⟩ := h
    rw [lc, moeb_count Sqt Sqb MO]
    exact ret_ (ev_v rfl) (q H' ((s1.trans s2).trans s3))
end
end W7
end
section
set_option Elab.async false
set_option linter.all false
set_option maxRecDepth 100000
set_option maxHeartbeats 1000000
namespace W7
open PySem PySem.Spec PyProof.Rows L2 RZ K37 K37E M7
/-- the law's state: a list of two numbers -/
def StO (H : Hp) (l : Addr) : Prop := ∃ a b : Int, H l = some (.lst [.int a, .int b])
section
variable {nx bk ct : L2.St → Hp → Prop} {rt : VK} {σ : L2.St} {H : Hp} {te ta tb : TE} {K : PySem.W.Frag}
theorem ev_int1 {z : Int} (h : Ev te σ H (.int z)) : Ev (tCB (fun xs H Q => (∃ i, xs = [.int i] ∧ Q (.int i) H) ∨ ∃ k, xs = [.bl k] ∧ Q (.int (if k then 1 else 0)) H) (tCons te tNil)) σ H (.int z) := fun Q q => h _ (.inl ⟨z, rfl, q⟩)
theorem ev_absZ {z : Int} (h : Ev te σ H (.int z)) : ∃ y : Int, Ev (tCB (fun xs H Q => ∃ i, xs = [.int i] ∧ Q (.int (if i < 0 then -i else i)) H) (tCons te tNil)) σ H (.int y) := ⟨_, fun Q q => h _ ⟨z, rfl, q⟩⟩
theorem ev_modZ {a b : Int} (ha : Ev ta σ H (.int a)) (hb : Ev tb σ H (.int b)) (h : b ≠ 0) : Ev (tOp (rI (fun _ j => j ≠ 0) fun i j => .int (i.fmod j)) ta tb) σ H (.int (a.fmod b)) := ev_op ha hb fun Q q => ⟨a, b, rfl, rfl, h, q⟩
theorem ev_divZ {a b : Int} (ha : Ev ta σ H (.int a)) (hb : Ev tb σ H (.int b)) (h : b ≠ 0) (h2 : b.natAbs < 1073741824) : Ev (tOp (rI CDivN fun i j => .int (i.fdiv j)) ta tb) σ H (.int (a.fdiv b)) := ev_op ha hb fun Q q => ⟨a, b, rfl, rfl, ⟨h, h2⟩, q⟩
theorem rs_lst2 {x y : V} (ha : Ev ta σ H x) (hb : Ev tb σ H y) : Rs (tLst (tCons ta (tCons tb tNil))) σ H fun H' v => ∃ p, v = .ref p ∧ H p = none ∧ H' p = some (.lst [x, y]) := fun Q q => ha _ (hb _ ⟨by show 2 ≤ sizeLine; decide, fun p hp => q _ _ (same_new hp) ⟨p, rfl, hp, upd_same⟩⟩)
theorem rs_listRgF {n : Nat} (h : Ev te σ H (.int (n : Nat))) (hn : n ≤ 1000) : Rs (tLstRg (tRg1 te)) σ H fun H' v => LnF H H' v (List.range n) := fun Q q => h _ ⟨n, rfl, rg_ok hn, fun p hp => q _ _ (same_new hp) ⟨p, rfl, hp, by rw [upd_same, nv_range]⟩⟩
theorem mappG {to : TE} {l0 : Addr} {xs : List V} {Q : VK} (ho : Ev to σ H (.ref l0)) (h : H l0 = some (.lst xs)) (k : te σ H fun y H2 => ∃ ys, H2 l0 = some (.lst ys) ∧ ys.length < sizeLine ∧ Q .non (upd H2 l0 (.lst (ys ++ [y])))) (mono : ∀ Q Q' : VK, (∀ v H', Q v H' → Q' v H') → te σ H Q → te σ H Q') : tM isL rApp7 to (tCons te tNil) σ H Q :=
  ho _ ⟨⟨l0, xs, rfl, h⟩, mono _ _ (fun y H2 ⟨ys, a, b, c⟩ => ⟨l0, ys, y, rfl, rfl, a, b, c⟩) k⟩
theorem fmod_nat (a : Int) {m : Nat} (h : 0 < m) : ∃ v : Nat, v < m ∧ a.fmod (m : Int) = (v : Int) := by
  have h1 := Int.fmod_nonneg_of_pos a (b := (m : Int)) (by omega)
  have h2 := Int.fmod_lt_of_pos a (b := (m : Int)) (by omega)
  exact ⟨(a.fmod m).toNat, by omega, by omega⟩
end
section
variable {P : Program} {w : World} {K : PySem.W.Frag} {mg : Str → Option Value} {base : Heap} {C : Addr}
def spTake : Sp := fun vs H Q _ => ∃ (l : Addr) (m : Nat), vs = [.ref l, .int (m : Int)] ∧ 0 < m ∧ m < 1000 ∧ StO H l ∧ ∀ (v : Nat) (a b : Int), v < m → Q (.int (v : Nat)) (upd H l (.lst [.int a, .int b]))
theorem sc_l_take : FnScope ["_law_state_here", "_law_m", "_law_value"] ["_law_state_here", "_law_m"] (defScope s_law_take) := ⟨rfl, rfl, rfl, by decide +kernel, rfl, by decide +kernel, by decide +kernel⟩
theorem h_l_take (D : Dfn K mg "_law_take" s_law_take) (T : Bl mg)  : Has P w K mg base "_law_take" ["_law_state_here", "_law_m"] 1 (spTake) := by
  refine D.has sc_l_take (fun _ _ _ _ _ _ us hl => match us, hl with | [_, _], _ => rfl) (fun vs H Q E h => by obtain ⟨l, m, rfl, _⟩ := h; rfl) (fun f cdv A outer s H vs Q E hr h => ⟨_, (pss_cons (ps_if (pt_cmpR op_gt (pe_ix ix7L (pv 0) pe_int (fun _ _ => rfl)) pe_int (nomark _)) (pss_cons (ps_set (i := 2) sc_l_take.nd rfl (Or.inl rfl) (pe_op op_modN (pe_callTy call_int1 (by rfl) T.int (by decide +kernel) (pa_cons (pe_ix ix7L (pv 0) pe_int (fun _ _ => rfl)) pa_nil)) (pv 1)))
      (pss_cons (ps_asg (pe_op op_fdivN (pe_ix ix7L (pv 0) pe_int (fun _ _ => rfl)) (pv 1)) (pg_sub (pv 0) pe_int set_list))
      (pss_one (ps_ret (pv 2))))) pss_nil)
      (pss_cons (ps_asg (pe_op op_modN (pe_callTy call_int1 (by rfl) T.int (by decide +kernel) (pa_cons (pe_op op_add (pe_op op_mul (pe_ix ix7L (pv 0) pe_int (fun _ _ => rfl)) pe_int) pe_int) pa_nil)) pe_int) (pg_sub (pv 0) pe_int set_list))
      (pss_one (ps_ret (pe_op op_modN (pe_callTy call_int1 (by rfl) T.int (by decide +kernel) (pa_cons (pe_op op_fdivN (pe_ix ix7L (pv 0) pe_int (fun _ _ => rfl)) pe_int) pa_nil)) (pv 1)))))), ?_⟩)
  obtain ⟨l, m, rfl, hm, hm2, ⟨a, b, hl⟩, q⟩ := h
  have e0 : ∀ {σ : L2.St} {H' : Hp} {a b : Int}, σ[0]? = some (some (V.ref l)) → H' l = some (.lst [.int a, .int b]) → Ev (tOp ixL (tVar 0) (tC (.int 0))) σ H' (.int a) := fun h1 h2 => ev_ixLv (j := 0) (ev_v h1) h2 ev_c rfl
  have e1 : ∀ {σ : L2.St} {H' : Hp} {a b : Int}, σ[0]? = some (some (V.ref l)) → H' l = some (.lst [.int a, .int b]) → Ev (tOp ixL (tVar 0) (tC (.int 1))) σ H' (.int b) := fun h1 h2 => ev_ixLv (j := 1) (ev_v h1) h2 ev_c rfl
  refine sq_ (ifn_ (et_t (ev_i2 (e0 rfl hl) ev_c)) (fun _ => ?_) fun _ => ?_)
  · obtain ⟨v, hv, ev⟩ := fmod_nat a hm
    refine sq_ (set_ (ev_modZ (ev_int1 (e0 rfl hl)) (ev_v rfl) (by omega)) (sq_ (setix_ (j := 0) (ev_divZ (e0 rfl hl) (ev_v rfl) (by omega) (by omega)) (ev_v rfl) ev_c hl (by show 0 < 2; omega) (ret_ (ev_v rfl) ?_))))
    rw [ev]
    exact q v _ b hv
  · refine sq_ (setix_ (j := 1) (ev_modZ (ev_int1 (ev_i2 (ev_mulC (e1 rfl hl) ev_c (.inr ⟨by decide, by decide⟩)) ev_c)) ev_c (by decide)) (ev_v rfl) ev_c hl (by show 1 < 2; omega) ?_)
    generalize hz : (b * 48271 + 11).fmod 2147483647 = z
    obtain ⟨v, hv, ev⟩ := fmod_nat (z.fdiv 7) hm
    refine ret_ (ev_modZ (ev_int1 (ev_divZ (e1 rfl upd_same) ev_c (by decide) (by decide))) (ev_v rfl) (by omega)) ?_
    rw [ev]
    exact q v a z hv
def spState : Sp := fun vs H Q _ => ∃ (K : PySem.W.Frag) (p : Addr) (ns : List Int), vs = [.ref p] ∧ True ∧ ∀ l H', Same H H' → H l = none → StO H' l → Q (.ref l) H'
def spStateK (K : PySem.W.Frag) : Sp := fun vs H Q _ => ∃ (p : Addr) (ns : List Int), vs = [.ref p] ∧ SqL K H p (ns.map V.int) ∧ ∀ l H', Same H H' → H l = none → StO H' l → Q (.ref l) H'
theorem sc_l_state : FnScope ["_law_script", "_law_seed", "_law_total", "_law_cell"] ["_law_script"] (defScope s_law_state) := ⟨rfl, rfl, rfl, by decide +kernel, rfl, by decide +kernel, by decide +kernel⟩
theorem h_l_state (D : Dfn K mg "_law_state" s_law_state) (T : Bl mg)  : Has P w K mg base "_law_state" ["_law_script"] 1 (spStateK (K)) := by
  refine D.has sc_l_state (fun _ _ _ _ _ _ us hl => match us, hl with | [_], _ => rfl) (fun vs H Q E h => by obtain ⟨p, ns, rfl, _⟩ := h; rfl) (fun f cdv A outer s H vs Q E hr h => ⟨_, (pss_cons (ps_set (i := 1) sc_l_state.nd rfl (Or.inl rfl) pe_int)
      (pss_cons (ps_set (i := 2) sc_l_state.nd rfl (Or.inl rfl) pe_int)
      (pss_cons (ps_for PassesOwn.never (by rfl) (pi7L K (pe_slice sl_list (pv 0) po_none (po_some pe_int))) (pg_name (i := 3) sc_l_state.nd rfl (Or.inl rfl)) (pss_cons (ps_set (i := 1) sc_l_state.nd rfl (Or.inl rfl) (pe_op op_add (pe_op op_mul (pv 1) pe_int) (pe_callB call_abs (by rfl) T.abs (by decide +kernel) (pa_cons (pv 3) pa_nil))))
      (pss_one (ps_set (i := 2) sc_l_state.nd rfl (Or.inl rfl) (pe_op op_modN (pe_callTy call_int1 (by rfl) T.int (by decide +kernel) (pa_cons (pe_op op_add (pe_op op_mul (pv 2) pe_int) (pv 3)) pa_nil)) pe_int)))))
      (pss_one (ps_ret (pe_lst (pa_cons (pv 1) (pa_cons (pv 2) pa_nil)))))))), ?_⟩)
  obtain ⟨p, ns, rfl, hp, q⟩ := h
  refine sq_ (set_ ev_c (sq_ (set_ ev_c (sq_ (forLs_ (P := fun H' v => ∃ l xs, v = .ref l ∧ H' l = some (.lst xs) ∧ ∀ x ∈ xs, ∃ z : Int, x = .int z) (fun Q q => ev_v rfl _ ⟨63, rfl, p, _, rfl, hp, fun l hl => q _ _ (same_new hl) ⟨l, _, rfl, upd_same, fun x hx => ?_⟩⟩) fun v1 H1 s1 ⟨l, xs, e1, hl, hx⟩ => ?_)))))
  · have hx2 : x ∈ ns.map V.int := List.mem_of_mem_drop (List.mem_of_mem_take hx)
    obtain ⟨z, _, e⟩ := List.mem_map.mp hx2
    exact ⟨z, e.symm⟩
  subst e1
  refine forL_ (p := l) (xs := xs) ev_c hl (fun i σ H' => H' = H1 ∧ ∃ (a b : Int) (c : Option V), σ = [some (.ref p), some (.int a), some (.int b), c]) ⟨rfl, 0, 1, none, rfl⟩ (fun i σ H' h => h.1 ▸ hl) (fun i x σ H' hxi h => ?_) fun σ H' h => ?_
  · obtain ⟨rfl, a, b, c, rfl⟩ := h
    obtain ⟨z, rfl⟩ := hx x (List.mem_of_getElem? hxi)
    obtain ⟨y, hy⟩ := ev_absZ (σ := [some (.ref p), some (.int a), some (.int b), some (.int z)]) (H := H') (te := tVar 3) (z := z) (ev_v rfl)
    exact sq_ (set_ (ev_i2 (ev_mulC (ev_v (v := .int a) rfl) ev_c (.inr ⟨by decide, by decide⟩)) hy) (set_ (ev_modZ (ev_int1 (ev_i2 (ev_mulC (ev_v (v := .int b) rfl) ev_c (.inr ⟨by decide, by decide⟩)) (ev_v (v := .int z) rfl))) ev_c (by decide)) ⟨rfl, _, _, _, rfl⟩))
  · obtain ⟨rfl, a, b, c, rfl⟩ := h
    exact rets_ (rs_lst2 (ev_v (v := .int a) rfl) (ev_v (v := .int b) rfl)) fun v H2 s2 ⟨r, e, hr, h⟩ => e ▸ q r H2 (s1.trans s2) (s1.free hr) ⟨a, b, h⟩
def spAfter : Sp := fun vs H Q _ => ∃ (v u : V) (k : Nat) (f g : List Nat), vs = [v, u] ∧ Tn H v f ∧ Tn H u g ∧ IsMap k f ∧ IsMap k g ∧ k ≤ 100 ∧ ∀ x H', Same H H' → Tn H' x (after f g) → Q x H'
theorem sc_l_after : FnScope ["_law_f", "_law_g", "_law_x"] ["_law_f", "_law_g"] (defScope s_law_after) := ⟨rfl, rfl, rfl, by decide +kernel, rfl, by decide +kernel, by decide +kernel⟩
theorem h_l_after (D : Dfn K mg "_law_after" s_law_after) (T : Bl mg)  : Has P w K mg base "_law_after" ["_law_f", "_law_g"] 1 (spAfter) := by
  refine D.has sc_l_after (fun _ _ _ _ _ _ us hl => match us, hl with | [_, _], _ => rfl) (fun vs H Q E h => by obtain ⟨v, u, k, f, g, rfl, _⟩ := h; rfl) (fun f cdv A outer s H vs Q E hr h => ⟨_, (pss_one (ps_ret (pe_callTy tup7 (by rfl) T.tuple (by decide +kernel) (pa_cons (pe_lc (own := [("_law_x", 2)]) (g := gName 2) (by rfl) sc_l_after.nd (pi7T K (pv 0)) (blkOk_by (by kernel_rfl)) (fun _ _ _ _ _ => pg_name (i := 2) sc_l_after.nd rfl (Or.inl rfl)) (fun _ _ _ _ _ => pts_nil) (fun _ _ _ _ _ => (pe_ix ix7T (pv 1) (pv 2) (fun _ _ => rfl)))) pa_nil)))), ?_⟩)
  obtain ⟨v, u, k, f, g, rfl, hf, hg, Mf, Mg, hk, q⟩ := h
  refine rets_ (rs_tupN (lcN_tup (at' g) (ev_v rfl) hf (by rw [Mf.len]; omega) fun j H' hj s => ev_ixT (ev_v rfl) (hg.same s) (ev_v rfl) (by rw [Mg.len]; exact Mf.lt _ (at_mem hj)))) fun x H' s h => q x H' s h
/-- what a call that draws leaves -/
structure Dr (l : Addr) (H H' : Hp) : Prop where
  but : But l H H'
  st : StO H' l
theorem Dr.fx {l : Addr} {H H' : Hp} (d : Dr l H H') (h : StO H l) : Fx H H' := let ⟨_, _, e⟩ := h; d.but.fx e
theorem Dr.trans {l : Addr} {H H1 H2 : Hp} (a : Dr l H H1) (b : Dr l H1 H2) : Dr l H H2 := ⟨fun c o n e => b.but c o n (a.but c o n e), b.st⟩
theorem Dr.same {l : Addr} {H H1 H2 : Hp} (a : Dr l H H1) (s : Same H1 H2) : Dr l H H2 := ⟨a.but.same s, let ⟨x, y, e⟩ := a.st; ⟨x, y, s _ _ e⟩⟩
theorem Dr.put {l m : Addr} {H H1 : Hp} {o : HO} (a : Dr l H H1) (h : H m = none) (n : m ≠ l := by assumption) : Dr l H (upd H1 m o) := ⟨a.but.new h, let ⟨x, y, e⟩ := a.st; ⟨x, y, by rw [upd_ne (fun z => n z.symm)]; exact e⟩⟩
theorem Dr.refl {l : Addr} {H : Hp} (h : StO H l) : Dr l H H := ⟨fun _ _ _ e => e, h⟩
theorem dr_take {l : Addr} {H : Hp} (a b : Int) : Dr l H (upd H l (.lst [.int a, .int b])) := ⟨fun c o n e => by rw [upd_ne n]; exact e, ⟨a, b, upd_same⟩⟩
theorem app_pop_take {nx bk ct : L2.St → Hp → Prop} {rt : VK} {σ : L2.St} {H : Hp} {to tl ts tl2 : TE} {l ll fl : Addr} {L F : List Nat} (ho : Ev to σ H (.ref fl)) (hF : H fl = some (.lst (nv F))) (hl : Ev tl σ H (.ref ll)) (hL : H ll = some (.lst (nv L))) (hs : Ev ts σ H (.ref l)) (hn : Ev tl2 σ H (.ref ll))
    (st : StO H l) (pos : 0 < L.length) (lt : L.length < 1000) (small : F.length < sizeLine) (n1 : ll ≠ l) (n2 : fl ≠ l) (n3 : fl ≠ ll) (k : ∀ (v : Nat) (a b : Int), v < L.length → nx σ (upd (upd (upd H l (.lst [.int a, .int b])) ll (.lst ((nv L).eraseIdx v))) fl (.lst (nv F ++ [.int (at' L v : Nat)])))) :
    tDrop (tM isL rApp7 to (tCons (tM isL rPopAt7 tl (tCons (tCall spTake [] E0 (tCons ts (tCons (tCB rLen7 (tCons tl2 tNil)) tNil))) tNil)) tNil)) ⟨nx, rt, bk, ct⟩ σ H := by
  have e : Ev (tCB rLen7 (tCons tl2 tNil)) σ H (.int (L.length : Nat)) := by
    have := ev_lenL hn hL
    rwa [nv_len] at this
  refine ho _ ⟨⟨fl, _, rfl, hF⟩, hl _ ⟨⟨ll, _, rfl, hL⟩, hs _ (e _ ⟨l, L.length, rfl, pos, lt, st, fun v a b hv => ⟨ll, nv L, .int (at' L v : Nat), v, rfl, rfl, ?_, by omega, nv_at hv, fl, nv F, _, rfl, rfl, ?_, by rw [nv_len]; exact small, k v a b hv⟩⟩)⟩⟩
  · rw [upd_ne n1]; exact hL
  · rw [upd_ne n3, upd_ne n2]; exact hF
theorem nv_erase : ∀ (L : List Nat) (v : Nat), (nv L).eraseIdx v = nv (L.eraseIdx v)
  | [], _ => rfl
  | _ :: _, 0 => rfl
  | x :: L, v + 1 => by
    show V.int (x : Int) :: (nv L).eraseIdx v = V.int (x : Int) :: nv (L.eraseIdx v)
    rw [nv_erase L v]
theorem erase_perm : ∀ {L : List Nat} {v : Nat}, v < L.length → (at' L v :: L.eraseIdx v).Perm L
  | x :: L, 0, _ => List.Perm.refl _
  | x :: L, v + 1, h => by
    have ih := erase_perm (L := L) (v := v) (Nat.lt_of_succ_lt_succ h)
    have e : at' (x :: L) (v + 1) = at' L v := rfl
    rw [e]
    exact (List.Perm.swap _ _ _).trans (ih.cons x)
def spOrder : Sp := fun vs H Q _ => ∃ (l : Addr) (n : Nat), vs = [.ref l, .int (n : Int)] ∧ n ≤ 100 ∧ StO H l ∧ ∀ u o H', Dr l H H' → Ln H' u o → IsOrd n o → Q u H'
theorem sc_l_order_of : FnScope ["_law_state_here", "_law_n", "_law_left", "_law_found", "_law_k"] ["_law_state_here", "_law_n"] (defScope s_law_order_of) := ⟨rfl, rfl, rfl, by decide +kernel, rfl, by decide +kernel, by decide +kernel⟩
theorem h_l_order_of (D : Dfn K mg "_law_order_of" s_law_order_of) (T : Bl mg) (H_l_take : Has P w K mg base "_law_take" ["_law_state_here", "_law_m"] 1 spTake) : Has P w K mg base "_law_order_of" ["_law_state_here", "_law_n"] 2 (spOrder) := by
  refine D.has sc_l_order_of (fun _ _ _ _ _ _ us hl => match us, hl with | [_, _], _ => rfl) (fun vs H Q E h => by obtain ⟨l, n, rfl, _⟩ := h; rfl) (fun f cdv A outer s H vs Q E hr h => ⟨_, (pss_cons (ps_set (i := 2) sc_l_order_of.nd rfl (Or.inl rfl) (pe_listRg (by rfl) (by rfl) T.list (prg_1 (by rfl) T.range (pv 1))))
      (pss_cons (ps_set (i := 3) sc_l_order_of.nd rfl (Or.inl rfl) (pe_lst pa_nil))
      (pss_cons (ps_for PassesOwn.never (by rfl) (pi_range1 (by rfl) T.range (pa_cons (pv 1) pa_nil)) (pg_name (i := 4) sc_l_order_of.nd rfl (Or.inl rfl)) (pss_one (ps_expr (pe_l7 PySem.F.slot_list_append PySem.F.type_list_append app7 (pv 3) (pa_cons (pe_l7 PySem.F.slot_list_pop PySem.F.type_list_pop popAt7 (pv 2) (pa_cons (pe_has H_l_take (hr.mono (by decide)) (pa_cons (pv 0) (pa_cons (pe_callB len7 (by rfl) T.len (by decide +kernel) (pa_cons (pv 2) pa_nil)) pa_nil))) pa_nil)) pa_nil)))))
      (pss_one (ps_ret (pv 3)))))), ?_⟩)
  obtain ⟨l, n, rfl, hn, hl, q⟩ := h
  have big : 1000000 < sizeLine := by decide
  refine sq_ (sets_ (rs_listRgF (n := n) (ev_v rfl) (by omega)) fun v1 H1 s1 hv1 => ?_)
  obtain ⟨ll, rfl, hll0, hll⟩ := hv1
  refine sq_ (sets_ rs_lst0 fun v2 H2 s2 ⟨fl, e2, hfl0, hfl⟩ => ?_)
  subst e2
  obtain ⟨a0, b0, hl0⟩ := id hl
  have s12 := s1.trans s2
  have nfl : fl ≠ ll := fun z => by rw [z, hll] at hfl0; cases hfl0
  have nll : ll ≠ l := fun z => by rw [z, hl0] at hll0; cases hll0
  have hfl00 := s1.free hfl0
  have nlf : fl ≠ l := fun z => by rw [z, hl0] at hfl00; cases hfl00
  refine sq_ (forR_ (n := n) (ev_v rfl) (sl1000 (by omega)) (fun k σ H' => Dr l H H' ∧ ∃ L F x, σ = [some (.ref l), some (.int (n : Nat)), some (.ref ll), some (.ref fl), x] ∧ H' ll = some (.lst (nv L)) ∧ H' fl = some (.lst (nv F)) ∧ (F ++ L).Perm (List.range n) ∧ F.length = k) ⟨(Dr.refl hl).same s12, _, [], none, rfl, s2 _ _ hll, hfl, by simp, rfl⟩ (fun k σ H' hk h => ?_) fun σ H' h => ?_)
  · obtain ⟨dr, L, F, x, rfl, hL, hF, pm, lF⟩ := h
    have ll7 := pm.length_eq
    rw [List.length_append, List.length_range] at ll7
    refine app_pop_take (ev_v rfl) hF (ev_v rfl) hL (ev_v rfl) (ev_v rfl) dr.st (by omega) (by omega) (by omega) nll nlf nfl fun v a b hv => ⟨((dr.trans (dr_take a b)).put hll0).put hfl00, L.eraseIdx v, F ++ [at' L v], _, rfl, ?_, ?_, ?_, by rw [List.length_append, List.length_singleton]; omega⟩
    · rw [upd_ne (fun z => nfl z.symm), upd_same, nv_erase]
    · rw [upd_same, nv_append]
      rfl
    · refine List.Perm.trans ?_ pm
      rw [List.append_assoc]
      refine List.Perm.append_left F ?_
      exact erase_perm hv
  · obtain ⟨dr, L, F, x, rfl, hL, hF, pm, lF⟩ := h
    have ll7 := pm.length_eq
    rw [List.length_append, List.length_range] at ll7
    have e0 : L = [] := List.eq_nil_of_length_eq_zero (by omega)
    subst e0
    rw [List.append_nil] at pm
    exact ret_ (ev_v rfl) (q _ F H' dr ⟨fl, rfl, hF⟩ ⟨lF, pm.nodup_iff.mpr List.nodup_range, fun z hz => List.mem_range.mp (pm.mem_iff.mp hz)⟩)
end
end W7
end
section
set_option Elab.async false
set_option linter.all false
set_option maxRecDepth 100000
set_option maxHeartbeats 1000000
namespace W7
open PySem PySem.Spec PyProof.Rows L2 RZ K37 K37E M7
theorem prd_of {α β : Type} {F : α → β → Prop} : ∀ {l : List α} {m : List β}, l.length = m.length → (∀ (j : Nat) (x : α) (y : β), l[j]? = some x → m[j]? = some y → F x y) → Paired F l m
  | [], [], _, _ => .nil
  | [], _ :: _, h, _ => by cases h
  | _ :: _, [], h, _ => by cases h
  | x :: l, y :: m, h, k => .cons (k 0 x y rfl rfl) (prd_of (Nat.succ.inj h) fun j a b h1 h2 => k (j + 1) a b h1 h2)
theorem nv_set (r : List Nat) (j z : Nat) : (nv r).set j (.int (z : Nat)) = nv (r.set j z) := by
  unfold nv
  rw [List.map_set]
theorem inl_set {H : Hp} {D a : Addr} {vs : List V} {rows : List (List Nat)} {i : Nat} {row : List Nat} (p : Paired (InL H D) vs rows) (nd : vs.Nodup) (hi : vs[i]? = some (.ref a)) : Paired (InL (upd H a (.lst (nv row))) D) vs (rows.set i row) := by
  have hl := prd_len p
  refine prd_of (by rw [List.length_set, hl]) fun j x y h1 h2 => ?_
  have hj := (List.getElem?_eq_some_iff.mp h1).1
  have hii := (List.getElem?_eq_some_iff.mp hi).1
  by_cases e : j = i
  · subst e
    rw [List.getElem?_set_self (by omega)] at h2
    cases h2
    rw [hi] at h1
    cases h1
    obtain ⟨r, _, b, e1, e2, _⟩ := prd_at' p hi
    cases e1
    exact ⟨a, rfl, e2, upd_same⟩
  · rw [List.getElem?_set_ne (fun z => e z.symm)] at h2
    obtain ⟨r, hr, b, e1, e2, e3⟩ := prd_at' p h1
    rw [h2] at hr
    cases hr
    refine ⟨b, e1, e2, ?_⟩
    rw [upd_ne]
    · exact e3
    · intro z
      subst z
      subst e1
      obtain ⟨h3, h4⟩ := List.getElem?_eq_some_iff.mp h1
      obtain ⟨h5, h6⟩ := List.getElem?_eq_some_iff.mp hi
      exact e ((List.getElem_inj (h₀ := h3) (h₁ := h5) nd).mp (h4.trans h6.symm))
theorem mul_set {rows : List (List Nat)} {i j z i' j' : Nat} (hi : i < rows.length) (hj : j < (rows.getD i []).length) : mul (rows.set i ((rows.getD i []).set j z)) i' j' = if i' = i ∧ j' = j then z else mul rows i' j' := by
  unfold mul
  by_cases e : i' = i
  · subst e
    have e1 : (rows.set i' ((rows.getD i' []).set j z)).getD i' [] = (rows.getD i' []).set j z := by
      rw [List.getD_eq_getElem?_getD, List.getElem?_set_self hi]
      rfl
    rw [e1]
    by_cases e2 : j' = j
    · subst e2
      rw [if_pos ⟨rfl, rfl⟩, List.getD_eq_getElem?_getD, List.getElem?_set_self hj]
      rfl
    · rw [if_neg (fun q => e2 q.2), List.getD_eq_getElem?_getD, List.getElem?_set_ne (fun q => e2 q.symm), ← List.getD_eq_getElem?_getD]
  · rw [if_neg (fun q => e q.1)]
    have e1 : (rows.set i ((rows.getD i []).set j z)).getD i' [] = rows.getD i' [] := by
      rw [List.getD_eq_getElem?_getD, List.getElem?_set_ne (fun q => e q.symm), ← List.getD_eq_getElem?_getD]
    rw [e1]
section
variable {P : Program} {w : World} {K : PySem.W.Frag} {mg : Str → Option Value} {base : Heap} {C : Addr}
/-- rows that are lists, made to tuples -/
theorem lcT_LL {σ : L2.St} {H : Hp} {te : TE} {i : Nat} {p : Addr} {vs : List V} {rows : List (List Nat)} (hn : Ev te σ H (.ref p)) (hp : H p = some (.lst vs)) (pr : Paired (InL H p) vs rows) (h1 : rows.length ≤ 1000) (hi : ∀ v, (σ.set i (some v))[i]? = some (some v)) :
    Rs (tLc (iList K te) (gName i) tYes (tCB rTup7 (tCons (tVar i) tNil)) [i]) σ H fun H' v => Lt H' v rows := fun Q q => by
  have hl := prd_len pr
  refine LcB.list (x := fun j => vs.getD j .non) (b := fun _ => true) (r := fun j H2 u => Tn H2 u (rows.getD j [])) ⟨fun j H' hj s => es_yes, fun j H' hj hb s => ?_, fun _ _ _ _ s h => h.fx s, by rw [hl]; exact sl1000 h1⟩ hn hp (fun j hj => getD_at hj) fun D H' us hD s e p => q _ _ s ⟨D, us, rfl, e, ?_⟩
  · obtain ⟨r, hr, a, e, _, ha⟩ := prd_at' pr (getD_at (d := .non) hj)
    have e2 : rows.getD j [] = r := by rw [List.getD_eq_getElem?_getD, hr]; rfl
    rw [e2]
    refine rs_tupN ((ev_v (hi _)).rs ⟨a, e, s _ _ ha⟩)
  · rw [filter_true, hl] at p
    have e5 : rows = (List.range rows.length).map fun j => rows.getD j [] := by
      apply List.ext_getElem (by simp)
      intro j h1 h2
      rw [List.getElem_map, List.getElem_range, row_getD]
    have p2 := prd_tn p
    rwa [← e5] at p2
def spRen : Sp := fun vs H Q _ => ∃ (v u : V) (t : List (List Nat)) (o : List Nat), vs = [v, u] ∧ Lt H v t ∧ Ok4 t ∧ Ln H u o ∧ IsOrd t.length o ∧ ∀ x r H', Same H H' → Lt H' x r → Ok4 r → r.length = t.length → Q x H'
theorem sc_l_renamed : FnScope ["_law_table", "_law_order", "_law_n", "_law_found", "_law_x", "_law_y", "_law_row"] ["_law_table", "_law_order"] (defScope s_law_renamed) := ⟨rfl, rfl, rfl, by decide +kernel, rfl, by decide +kernel, by decide +kernel⟩
theorem h_l_renamed (D : Dfn K mg "_law_renamed" s_law_renamed) (T : Bl mg)  : Has P w K mg base "_law_renamed" ["_law_table", "_law_order"] 1 (spRen) := by
  refine D.has sc_l_renamed (fun _ _ _ _ _ _ us hl => match us, hl with | [_, _], _ => rfl) (fun vs H Q E h => by obtain ⟨v, u, t, o, rfl, _⟩ := h; rfl) (fun f cdv A outer s H vs Q E hr h => ⟨_, (pss_cons (ps_set (i := 2) sc_l_renamed.nd rfl (Or.inr rfl) (pe_callB len7 (by rfl) T.len (by decide +kernel) (pa_cons (pv 0) pa_nil)))
      (pss_cons (ps_setLc (i := 3) (own := [("_law_x", 4)]) (g := gName 4) (by rfl) sc_l_renamed.nd rfl rfl (sw_true rfl rfl rfl (by decide +kernel)) (pi_range1 (by rfl) T.range (pa_cons (pv 2) pa_nil)) (blkOk_by (by kernel_rfl)) (fun _ _ _ _ _ => pg_name (i := 4) sc_l_renamed.nd rfl (Or.inl rfl)) (fun _ _ _ _ _ => pts_nil) (fun _ _ _ _ _ => (pe_lc (own := [("_law_y", 5)]) (g := gName 5) (by rfl) sc_l_renamed.nd (pi_range1 (by rfl) T.range (pa_cons (pv 2) pa_nil)) (blkOk_by (by kernel_rfl)) (fun _ _ _ _ _ => pg_name (i := 5) sc_l_renamed.nd rfl (Or.inl rfl)) (fun _ _ _ _ _ => pts_nil) (fun _ _ _ _ _ => pe_int))))
      (pss_cons (ps_for PassesOwn.never (by rfl) (pi_range1 (by rfl) T.range (pa_cons (pv 2) pa_nil)) (pg_name (i := 4) sc_l_renamed.nd rfl (Or.inl rfl)) (pss_one (ps_for PassesOwn.never (by rfl) (pi_range1 (by rfl) T.range (pa_cons (pv 2) pa_nil)) (pg_name (i := 5) sc_l_renamed.nd rfl (Or.inl rfl)) (pss_one (ps_asg (pe_ix ix7L (pv 1) (pe_ix ix7T (pe_ix ix7L (pv 0) (pv 4) (fun _ _ => rfl)) (pv 5) (fun _ _ => rfl)) (fun _ _ => rfl)) (pg_sub (pe_ix ix7L (pv 3) (pe_ix ix7L (pv 1) (pv 4) (fun _ _ => rfl)) (fun _ _ => rfl)) (pe_ix ix7L (pv 1) (pv 5) (fun _ _ => rfl)) set_list))))))
      (pss_one (ps_ret (pe_lc (own := [("_law_row", 6)]) (g := gName 6) (by rfl) sc_l_renamed.nd (pi7L K (pv 3)) (blkOk_by (by kernel_rfl)) (fun _ _ _ _ _ => pg_name (i := 6) sc_l_renamed.nd rfl (Or.inl rfl)) (fun _ _ _ _ _ => pts_nil) (fun _ _ _ _ _ => (pe_callTy tup7 (by rfl) T.tuple (by decide +kernel) (pa_cons (pv 6) pa_nil))))))))), ?_⟩)
  obtain ⟨v, u, t, o, rfl, hv, Ot, hu, Oo, q⟩ := h
  have hn4 := Ot.le4
  have hpos := Ot.sq.pos
  refine sq_ (set_ (ev_lenLt (ev_v rfl) hv) (sq_ (sets_ (lcLLF_range (n := t.length) (fun _ => List.replicate t.length 0) (ev_v rfl) (by omega) fun j H' hj s => Rs.imp (lcF_range (fun _ => true) (fun _ => 0) (n := t.length) (ev_v rfl) (by omega) (fun _ _ _ _ Q q => q) fun _ _ _ _ _ => ev_c (v := .int (0 : Nat))) fun H2 v _ h => ?_) fun v1 H1 s1 ⟨D, vs, e1, hD0, hD, pr, nd, fr⟩ => ?_)))
  · rw [filter_true] at h
    have e : (List.range t.length).map (fun _ => 0) = List.replicate t.length 0 := by rw [List.map_const', List.length_range]
    rwa [e] at h
  subst e1
  have oin : ∀ {x}, x < t.length → at' o x < t.length := fun h => Oo.at_lt h
  refine sq_ (forR_ (n := t.length) (ev_v rfl) (sl1000 (by omega)) (fun x σ H' => Same H H' ∧ ∃ rows a b c, σ = [some v, some u, some (.int (t.length : Nat)), some (.ref D), a, b, c] ∧ H' D = some (.lst vs) ∧ Paired (InL H' D) vs rows ∧ (∀ r ∈ rows, r.length = t.length) ∧ rows.length = t.length ∧ ∀ x' y', x' < x → y' < t.length → mul rows (at' o x') (at' o y') = at' o (mul t x' y'))
    ⟨s1, _, none, none, none, rfl, hD, pr, fun r hr => ?_, by rw [List.length_map, List.length_range], fun x' y' h => (by omega)⟩ (fun x σ H' hx h => ?_) fun σ H' h => ?_)
  · obtain ⟨_, _, rfl⟩ := List.mem_map.mp hr
    exact List.length_replicate ..
  · obtain ⟨s2, rows, a, b, c, rfl, hD2, pr2, rl, ln, inv⟩ := h
    refine forR_ (n := t.length) (ev_v rfl) (sl1000 (by omega)) (fun y σ H' => Same H H' ∧ ∃ rows b c, σ = [some v, some u, some (.int (t.length : Nat)), some (.ref D), some (.int (x : Nat)), b, c] ∧ H' D = some (.lst vs) ∧ Paired (InL H' D) vs rows ∧ (∀ r ∈ rows, r.length = t.length) ∧ rows.length = t.length ∧ ∀ x' y', (x' < x ∧ y' < t.length) ∨ (x' = x ∧ y' < y) → mul rows (at' o x') (at' o y') = at' o (mul t x' y'))
      ⟨s2, rows, b, c, rfl, hD2, pr2, rl, ln, fun x' y' h => inv x' y' (by omega) (by omega)⟩ (fun y σ H' hy h => ?_) fun σ H' h => ?_
    · obtain ⟨s3, rows, b, c, rfl, hD3, pr3, rl3, ln3, inv3⟩ := h
      have hm := Ot.sq.mul_lt hx hy
      have hox := oin hx
      have hoy := oin hy
      obtain ⟨uu, huu, a, ea, nea, ha⟩ := prd_at pr3 (getD_at (d := []) (show at' o x < rows.length by omega))
      subst ea
      have hrl : (rows.getD (at' o x) []).length = t.length := rl3 _ (List.mem_of_getElem? (getD_at (by omega)))
      obtain ⟨a', ea', ha0⟩ := fr _ (List.mem_of_getElem? huu)
      cases ea'
      have hv3 := hv.same s3
      have hu3 := hu.same s3
      have ol : o.length = t.length := Oo.len
      refine setix_ (j := at' o y) (ev_ixL (ev_v rfl) hu3 (ev_lt2 (ev_v rfl) hv3 (ev_v rfl) (ev_v rfl) hx (by rw [sq_row Ot.sq hx]; exact hy)) (by omega)) (ev_ixLv (ev_v rfl) hD3 (ev_ixL (ev_v rfl) hu3 (ev_v rfl) (by omega)) huu) (ev_ixL (ev_v rfl) hu3 (ev_v rfl) (by omega)) ha (by rw [nv_len, hrl]; exact hoy) ⟨same_put s3 ha0, rows.set (at' o x) ((rows.getD (at' o x) []).set (at' o y) (at' o (mul t x y))), _, _, rfl, ?_, ?_, fun r hr => ?_, by rw [List.length_set]; exact ln3, fun x' y' h => ?_⟩
      · rw [upd_ne (fun z => nea z.symm)]
        exact hD3
      · rw [nv_set]
        exact inl_set pr3 nd huu
      · rcases List.mem_or_eq_of_mem_set hr with z | rfl
        · exact rl3 r z
        · rw [List.length_set]; exact hrl
      · have hx' : x' < t.length := by omega
        have hy' : y' < t.length := by omega
        rw [mul_set (by omega) (by omega)]
        by_cases e : at' o x' = at' o x ∧ at' o y' = at' o y
        · rw [if_pos e, Oo.inj hx' hx e.1, Oo.inj hy' hy e.2]
        · rw [if_neg e]
          refine inv3 x' y' ?_
          by_cases e2 : x' = x ∧ y' = y
          · exact absurd ⟨by rw [e2.1], by rw [e2.2]⟩ e
          · omega
    · obtain ⟨s3, rows, b, c, rfl, hD3, pr3, rl3, ln3, inv3⟩ := h
      exact ⟨s3, rows, _, _, _, rfl, hD3, pr3, rl3, ln3, fun x' y' h1 h2 => inv3 x' y' (by omega)⟩
  · obtain ⟨s2, rows, a, b, c, rfl, hD2, pr2, rl, ln, inv⟩ := h
    exact rets_ (lcT_LL (ev_v rfl) hD2 pr2 (by omega) fun _ => rfl) fun x H3 s3 h3 => q x rows H3 (s2.trans s3) h3 (ren_ok Ot Oo ln rl fun x y hx hy => inv x y hx hy) ln
def spKeeps : Sp := fun vs H Q _ => ∃ (v u z : V) (a b : List (List Nat)) (f : List Nat), vs = [v, u, z] ∧ Lt H v a ∧ Lt H u b ∧ Sq a ∧ Sq b ∧ (∃ p, z = .ref p ∧ SqT K H p (nv f)) ∧ f.length = a.length ∧ (∀ y ∈ f, y < b.length) ∧ ∀ H', Same H H' → Q (.bl (keepsB a b f)) H'
end
end W7
end
section
set_option Elab.async false
set_option linter.all false
set_option maxRecDepth 100000
set_option maxHeartbeats 1000000
/-! tuples of which it is known that they carry no dict -/
namespace W7
open PySem PySem.Spec PyProof.Rows L2 RZ K37 K37E M7
def TnF (H : Hp) (v : V) (ns : List Nat) : Prop := ∃ a ob, v = .ref a ∧ H a = some (.frz ob (.tup (nv ns))) ∧ ob.dict = none
theorem TnF.fx {H H' : Hp} {v : V} {ns : List Nat} (h : TnF H v ns) (f : Fx H H') : TnF H' v ns := let ⟨a, ob, e, q, d⟩ := h; ⟨a, ob, e, f _ _ rfl q, d⟩
def tTupF (t : TA) : TE := fun σ H Q => t σ H fun xs H1 => xs.length ≤ sizeLine ∧ ∀ p ob, H1 p = none → ob.dict = none → Q (.ref p) (upd H1 p (.frz ob (.tup xs)))
def rCatF (K : PySem.W.Frag) : R2 := fun x y H Q => ∃ a b xs ys, x = .ref a ∧ y = .ref b ∧ SqT K H a xs ∧ SqT K H b ys ∧ xs.length + ys.length ≤ sizeLine ∧ ys ≠ [] ∧ (xs = [] → Q (.ref b) H) ∧ (xs ≠ [] → ∀ p ob, H p = none → ob.dict = none → Q (.ref p) (upd H p (.frz ob (.tup (xs ++ ys)))))
def ixTF : R2 := fun x y H Q => ∃ p xs v, ∃ j : Nat, x = .ref p ∧ y = .int (j : Int) ∧ Rd H p (.tup xs) ∧ xs[j]? = some v ∧ Q v H
section
variable {X : Cx} {es : List Expr} {t : TA} {pos : Pos}
theorem ix7F : IxR X ixTF := ixr_imp ix_tup fun x y H Q ⟨p, xs, v, j, a, b, c, d, q⟩ => ⟨p, xs, _, v, a, b, .inl c, atI_nat d, q⟩
theorem pe_tupF {x1} (h : PA X es t) : PE X (.Tuple es x1 pos) (tTupF t) := by
  constructor
  intro pins s σ H Q I hq
  refine wpAny_Tuple_spliced (thn (h.run pos pins s σ H _ I hq) fun us s1 hx => ?_)
  obtain ⟨xs, H1, I1, r, z, q⟩ := hx
  have lz : us.length ≤ sizeLine := r.length ▸ z
  refine ⟨lz, .ref s1.heap.objs.size, _, I1.laid (a := s1.heap.objs.size) (o := .frz { cls := .type "tuple", data := .seq us.toArray 0 } (.tup xs)) (t' := s1.toks) (fun b u e => Heap.get?_push_of_some _ e) (Nat.le_refl _) ?_, rfl, q _ _ (I1.hok.fresh (Nat.le_refl _)) rfl⟩
  exact ⟨Heap.get?_push_size _ rfl, z, us, r, _, Heap.get?_push_size _ rfl, rfl, _, rfl⟩
theorem cat7F : OpR X (binaryOp .Add) (rCatF X.K) := by
  intro pins s σ H x y v u Q I rx ry h
  obtain ⟨a, b, xs, ys, rfl, rfl, ha, hb, hz, hne, q0, q1⟩ := h
  cases rx
  cases ry
  obtain ⟨its, r1, p1, _⟩ := I.tuple ha
  obtain ⟨its2, r2, p2, _⟩ := I.tuple hb
  by_cases hx : xs = []
  · subst hx
    cases r1
    exact cat_tup0 p1 p2 ⟨.ref b, H, I, rfl, q0 rfl⟩
  · have n1 : ¬ its = [] := fun z => hx (r1.nil_iff.mp z)
    have n2 : ¬ its2 = [] := fun z => hne (r2.nil_iff.mp z)
    refine HT.cat_tup p1 p2 n1 (fun z => absurd z n2) (fun _ => ?_) (by rw [← r1.length, ← r2.length]; exact hz)
    have hl : (xs ++ ys).length ≤ sizeLine := by rw [List.length_append]; exact hz
    refine ⟨.ref s.heap.objs.size, _, I.laid (a := s.heap.objs.size) (t' := s.toks) (o := .frz { cls := .type "tuple", data := .seq (its ++ its2).toArray 0 } (.tup (xs ++ ys))) (fun b ob q => Heap.get?_push_of_some _ q) (Nat.le_refl _) ?_, rfl, q1 hx _ _ (I.hok.fresh (Nat.le_refl _)) rfl⟩
    exact ⟨Heap.get?_push_size _ rfl, hl, _, r1.append r2, IsTup.new _ _⟩
end
theorem cat7FK {X : Cx} (K : PySem.W.Frag) (h : X.K = K := by rfl) : OpR X (binaryOp .Add) (rCatF K) := h ▸ cat7F
section
variable {σ : L2.St} {H : Hp} {ta tb te el : TE} {x : V} {K : PySem.W.Frag} {i : Nat}
theorem TnF.rd {v : V} {ns : List Nat} (h : TnF H v ns) : ∃ a, v = .ref a ∧ Rd H a (.tup (nv ns)) := let ⟨a, ob, e, q, _⟩ := h; ⟨a, e, .inr ⟨ob, q⟩⟩
theorem TnF.same {H' : Hp} {v : V} {ns : List Nat} (h : TnF H v ns) (s : Same H H') : TnF H' v ns := h.fx (fx_of s)
theorem ev_ixF {ns : List Nat} {j : Nat} (ha : Ev ta σ H x) (h : TnF H x ns) (hb : Ev tb σ H (.int j)) (hj : j < ns.length) : Ev (tOp ixTF ta tb) σ H (.int (at' ns j : Nat)) := by
  obtain ⟨p, e, h2⟩ := h.rd
  subst e
  exact ev_op ha hb fun Q q => ⟨p, _, _, j, rfl, rfl, h2, nv_at hj, q⟩
theorem lcN_tupF {ns : List Nat} (f : Nat → Nat) (hn : Ev te σ H x) (hx : TnF H x ns) (h1 : ns.length ≤ 1000) (he : ∀ j H', j < ns.length → Same H H' → Ev el (σ.set i (some (.int (at' ns j : Nat)))) H' (.int (f (at' ns j) : Nat))) :
    Rs (tLc (iTup K te) (gName i) tYes el [i]) σ H fun H' v => Ln H' v (ns.map f) := fun Q q => by
  obtain ⟨p, ob, rfl, hp, _⟩ := hx
  have B : LcB σ H i tYes el (nv ns).length (fun j => .int (at' ns j : Nat)) (fun _ => true) (fun j _ v => v = .int (f (at' ns j) : Nat)) := ⟨fun j H' hj s => es_yes, fun j H' hj hb s => (he j H' (by rwa [nv_len] at hj) s).rs rfl, fun _ _ _ _ _ h => h, by rw [nv_len]; exact sl1000 h1⟩
  refine hn _ ⟨p, rfl, ⟨_, .inl (.inr ⟨ob, hp⟩)⟩, fun D hD => ?_⟩
  refine lc_tup (K := K) (xs := nv ns) (Acc H D (fun _ => true) fun j _ v => v = .int (f (at' ns j) : Nat)) (acc0 hD) (fun j H' _ h => .inl (.inr ⟨ob, h.1 _ _ hp⟩)) (fun j v H' hv h => ?_) fun H' h => ?_
  · have hj := (List.getElem?_eq_some_iff.mp hv).1
    have hj2 := hj
    rw [nv_len] at hj2
    rw [nv_at hj2] at hv
    cases hv
    exact B.turn hD hj h
  · obtain ⟨s, vs, e, p'⟩ := h
    rw [filter_true, nv_len] at p'
    exact q _ _ s ⟨D, rfl, by rw [e, prd_fun p', map_at]⟩
end
/-- t.index(n), t a tuple without a dict -/
def rIxF : V → List V → Hp → VK → Prop := fun x xs H Q => ∃ (n : Nat) (ns : List Nat), xs = [.int (n : Int)] ∧ TnF H x ns ∧ n ∈ ns ∧ Q (.int (ns.idxOf n : Nat)) H
def isTF (x : V) (H : Hp) : Prop := ∃ ns, TnF H x ns
section
variable {X : Cx} {o e : Expr} {to te : TE} {apos cpos : Pos}
theorem mt7F (hu : X.A.units + 65 < cLine) : MtR X "tuple.index" rIxF := fun pins s σ H x xs v us Q I rx rs ⟨n, ns, e, ⟨a, ob, ea, ha, _⟩, hm, q⟩ =>
  mt_tup_indexU hu pins s σ H x xs v us Q I rx rs ⟨a, .int n, .int n, dn ns, ns.idxOf n, .int n, ea, e, .tup (.inl (.inr ⟨ob, ha⟩)) (dp_nv ns), .int _, dtu_shaped ns, rfl, by unfold dn; rw [List.getElem?_map, W7.idx_at hm]; rfl, by show ((n : Int) == (n : Int)) = true; simp, fun m z hlt hz => by
    obtain ⟨k, e1, rfl⟩ := at_dn hz
    have := idx_before hlt e1
    show ((k : Int) == (n : Int)) = false
    simp
    omega, q⟩
theorem pe_tix (hu : X.A.units + 65 < cLine) (ho : PE X o to) {t : TA} (ha : PA X [e] t)
    (hbase : attributeBase o "index" X.env (eval o X.env) = eval o X.env := by rfl)
    (hfew : ((backTo cpos (starEach [e] X.env)).all (fun x => !x.1) && (backToKw cpos (keywordEach [] X.env)).all (fun x => x.1.isSome) && decide ([e].length + ([] : List Keyword).length + (if ([] : List Keyword).isEmpty then 0 else 1) < 30)) = true := by rfl)
    (hline : (apos.endLine == cpos.line) = true := by rfl) (hs : starEach [e] X.env = (false, eval e X.env) :: starEach [] X.env := by rfl) : PE X (.Call (.Attribute o "index" apos) [e] [] cpos) (tM isTF rIxF to t) := by
  constructor
  intro pins s σ H Q I h
  refine wpAny_Call_method_late hbase hfew hline rfl (thn (ho.run pins s σ H _ I h) fun v s1 hx => ?_)
  obtain ⟨x, H1, I1, r1, ⟨ns, a, ob, ex, hH, hd⟩, q1⟩ := hx
  subst ex
  cases r1
  obtain ⟨at1, _, its, _, o2, at2, c2, _⟩ := I1.hok a _ hH
  rw [at1] at at2
  cases at2
  refine ⟨"tuple", _, PySem.F.plainAttrs_tuple, PySem.F.slot_tuple_index, PySem.F.type_tuple_index, ⟨ob, at1, c2⟩, fun b e => ?_, ?_⟩
  · cases e
    exact ⟨ob, at1, hd⟩
  have hA := ha.run cpos pins s1 σ H1 _ I1 q1
  rw [hs] at hA ⊢
  exact Calls.callWith_builtin rfl (Calls.evalArgs_plain (thn hA fun us s2 ⟨vs, H2, I2, r2, q2⟩ => mt7F hu pins s2 σ H2 (.ref a) vs _ us Q I2 rfl r2 q2))
end
end W7
end
section
set_option Elab.async false
set_option linter.all false
set_option maxRecDepth 100000
set_option maxHeartbeats 1000000
namespace W7
open PySem PySem.Spec PyProof.Rows L2 RZ K37 K37E M7
/-- a row of the table of all rows: empty, or made here -/
def RowF (H : Hp) (v : V) (r : List Nat) : Prop := (r = [] ∧ Tn H v []) ∨ (r ≠ [] ∧ TnF H v r)
theorem RowF.fx {H H' : Hp} {v : V} {r : List Nat} (h : RowF H v r) (f : Fx H H') : RowF H' v r := h.elim (fun h => .inl ⟨h.1, h.2.fx f⟩) fun h => .inr ⟨h.1, h.2.fx f⟩
theorem RowF.sq {K : PySem.W.Frag} {H : Hp} {v : V} {r : List Nat} (h : RowF H v r) : ∃ a, v = .ref a ∧ SqT K H a (nv r) := by
  rcases h with ⟨rfl, a, e, h⟩ | ⟨_, h⟩
  · exact ⟨a, e, .of h⟩
  · obtain ⟨a, e, h⟩ := h.rd
    exact ⟨a, e, .inl h⟩
def RL (H : Hp) (v : V) (rows : List (List Nat)) : Prop := ∃ a vs, v = .ref a ∧ H a = some (.lst vs) ∧ Paired (RowF H) vs rows
theorem rows_fx {H H' : Hp} {vs : List V} {rows : List (List Nat)} (h : Paired (RowF H) vs rows) (f : Fx H H') : Paired (RowF H') vs rows := prd_imp h fun _ _ q => q.fx f
theorem RL.same {H H' : Hp} {v : V} {rows : List (List Nat)} (h : RL H v rows) (s : Same H H') : RL H' v rows := let ⟨a, vs, e, q, p⟩ := h; ⟨a, vs, e, s _ _ q, rows_fx p (fx_of s)⟩
section
variable {P : Program} {w : World} {K : PySem.W.Frag} {mg : Str → Option Value} {base : Heap} {C : Addr}
theorem rs_row {σ : L2.St} {H : Hp} {ta te : TE} {v : V} {r : List Nat} {x : Nat} (ha : Ev ta σ H v) (hr : RowF H v r) (he : Ev te σ H (.int (x : Nat))) (hl : r.length ≤ 100) : Rs (tOp (rCatF K) ta (tTupF (tCons te tNil))) σ H fun H' u => TnF H' u (r ++ [x]) := fun Q q => ha _ (he _ ⟨by show 1 ≤ sizeLine; decide, fun p ob hp hd => by
  obtain ⟨a, rfl, hs⟩ := (hr.fx (fx_new (o := .frz ob (.tup [V.int (x : Nat)])) hp)).sq (K := K)
  refine ⟨a, p, nv r, nv [x], rfl, rfl, hs, .inl (.inr ⟨ob, upd_same⟩), ?_, fun z => (by cases z), fun z => ?_, fun _ p2 ob2 hp2 hd2 => q _ _ ((same_new hp).trans (same_new hp2)) ⟨p2, ob2, rfl, by rw [upd_same, nv_append], hd2⟩⟩
  · rw [nv_len]
    have : 1000 < sizeLine := by decide
    show r.length + 1 ≤ sizeLine
    omega
  · have e : r = [] := nv_inj z
    subst e
    exact q _ _ (same_new hp) ⟨p, ob, rfl, upd_same, hd⟩⟩)
theorem rs_rows {σ : L2.St} {H : Hp} {ta te tn : TE} {v : V} {r : List Nat} {n i : Nat} (hn : Ev tn σ H (.int (n : Nat))) (h1 : n ≤ 1000) (ha : ∀ j H', Same H H' → Ev ta (σ.set i (some (.int (j : Nat)))) H' v) (he : ∀ j H', Ev te (σ.set i (some (.int (j : Nat)))) H' (.int (j : Nat))) (hr : RowF H v r) (hl : r.length ≤ 100) :
    Rs (tLc (iRng1 (tCons tn tNil)) (gName i) tYes (tOp (rCatF K) ta (tTupF (tCons te tNil))) [i]) σ H fun H' u => RL H' u ((List.range n).map fun x => r ++ [x]) := fun Q q => by
  refine LcB.range (b := fun _ => true) (r := fun j H2 u => TnF H2 u (r ++ [j])) ⟨fun j H' hj s => es_yes, fun j H' hj hb s => rs_row (ha j H' s) (hr.fx (fx_of s)) (he j H') hl, fun _ _ _ _ f h => h.fx f, sl1000 h1⟩ hn fun D H' vs hD s e p => q _ _ s ⟨D, vs, rfl, e, ?_⟩
  rw [filter_true] at p
  generalize List.range n = js at p
  clear e
  induction p with
  | nil => exact .nil
  | cons r' _ ih => exact .cons (.inr ⟨by simp, r'⟩) ih
def spRows : Sp := fun vs H Q _ => ∃ (n k : Nat), vs = [.int (n : Int), .int (k : Int)] ∧ n ≤ 4 ∧ 0 < k ∧ k ≤ 4 ∧ ∀ l us H', Same H H' → H' l = some (.lst us) → Paired (TnF H') us (rowsOf n k) → Q (.ref l) H'
theorem sc_l_rows_of : FnScope ["_law_n", "_law_count", "_law_found", "_law_k", "_law_longer", "_law_row", "_law_x"] ["_law_n", "_law_count"] (defScope s_law_rows_of) := ⟨rfl, rfl, rfl, by decide +kernel, rfl, by decide +kernel, by decide +kernel⟩
theorem h_l_rows_of (D : Dfn K mg "_law_rows_of" s_law_rows_of) (T : Bl mg)  : Has P w K mg base "_law_rows_of" ["_law_n", "_law_count"] 1 (spRows) := by
  refine D.has sc_l_rows_of (fun _ _ _ _ _ _ us hl => match us, hl with | [_, _], _ => rfl) (fun vs H Q E h => by obtain ⟨n, k, rfl, _⟩ := h; rfl) (fun f cdv A outer s H vs Q E hr h => ⟨_, (pss_cons (ps_set (i := 2) sc_l_rows_of.nd rfl (Or.inl rfl) (pe_lst (pa_cons (pe_tup pa_nil) pa_nil)))
      (pss_cons (ps_for PassesOwn.never (by rfl) (pi_range1 (by rfl) T.range (pa_cons (pv 1) pa_nil)) (pg_name (i := 3) sc_l_rows_of.nd rfl (Or.inl rfl)) (pss_cons (ps_set (i := 4) sc_l_rows_of.nd rfl (Or.inl rfl) (pe_lst pa_nil))
      (pss_cons (ps_for PassesOwn.never (by rfl) (pi7L K (pv 2)) (pg_name (i := 5) sc_l_rows_of.nd rfl (Or.inr rfl)) (pss_one (ps_set (i := 4) sc_l_rows_of.nd rfl (Or.inl rfl) (pe_op op_cat (pv 4) (pe_lc (own := [("_law_x", 6)]) (g := gName 6) (by rfl) sc_l_rows_of.nd (pi_range1 (by rfl) T.range (pa_cons (pv 0) pa_nil)) (blkOk_by (by kernel_rfl)) (fun _ _ _ _ _ => pg_name (i := 6) sc_l_rows_of.nd rfl (Or.inl rfl)) (fun _ _ _ _ _ => pts_nil) (fun _ _ _ _ _ => (pe_op (cat7FK K) (pv 5) (pe_tupF (pa_cons (pv 6) pa_nil)))))))))
      (pss_one (ps_set (i := 2) sc_l_rows_of.nd rfl (Or.inl rfl) (pe_callTy list7 (by rfl) T.list (by decide +kernel) (pa_cons (pv 4) pa_nil)))))))
      (pss_one (ps_ret (pv 2))))), ?_⟩)
  obtain ⟨n, k, rfl, hn, hk0, hk, q⟩ := h
  have big : 1000000 < sizeLine := by decide
  have small : ∀ i, i ≤ 4 → (rowsOf n i).length ≤ 256 := fun i hi => by
    rw [rows_len]
    have h1 : n ^ i ≤ 4 ^ i := Nat.pow_le_pow_left hn _
    have h2 : 4 ^ i ≤ 4 ^ 4 := Nat.pow_le_pow_right (by decide) hi
    omega
  refine sq_ (sets_ (P := fun H' v => RL H' v (rowsOf n 0)) (fun Q q => ⟨by show 0 ≤ sizeLine; omega, fun p hp => ⟨by show 1 ≤ sizeLine; omega, fun l hl => q _ _ ((same_new hp).trans (same_new hl)) ⟨l, [.ref p], rfl, upd_same, prd_one (.inl ⟨rfl, p, rfl, ?_⟩)⟩⟩⟩) fun v1 H1 s1 h1 => ?_)
  · rw [upd_ne (ne_of_none upd_same hl), upd_same]
    rfl
  refine sq_ (forR_ (n := k) (ev_v rfl) (sl1000 (by omega)) (fun i σ H' => Same H H' ∧ ∃ fv a b c d, σ = [some (.int (n : Nat)), some (.int (k : Nat)), some fv, a, b, c, d] ∧ RL H' fv (rowsOf n i)) ⟨s1, v1, none, none, none, none, rfl, h1⟩ (fun i σ H' hi h => ?_) fun σ H' h => ?_)
  · obtain ⟨s2, fv, a, b, c, d, rfl, hf⟩ := h
    refine sq_ (sets_ (P := fun H' v => RL H' v []) (Rs.imp rs_lst0 fun H' v s ⟨p, e, _, h⟩ => ⟨p, [], e, h, .nil⟩) fun v3 H3 s3 h3 => ?_)
    obtain ⟨fa, fvs, rfl, hfa, pf⟩ := hf.same s3
    have lf := prd_len pf
    refine sq_ (forL_ (p := fa) (xs := fvs) (ev_v rfl) hfa (fun j σ H' => Same H3 H' ∧ ∃ lv c d, σ = [some (.int (n : Nat)), some (.int (k : Nat)), some (.ref fa), some (.int (i : Nat)), some lv, c, d] ∧ RL H' lv (((rowsOf n i).take j).flatMap fun r => (List.range n).map fun x => r ++ [x])) ⟨Same.refl _, v3, c, d, rfl, h3⟩ (fun j σ H' h => h.1 _ _ hfa) (fun j x σ H' hx h => ?_) fun σ H' h => ?_)
    · obtain ⟨s4, lv, c, d, rfl, hlv⟩ := h
      obtain ⟨r, hr, hxr⟩ := prd_at' pf hx
      have hmem := mem_rowsOf.mp (List.mem_of_getElem? hr)
      have hj := (List.getElem?_eq_some_iff.mp hr).1
      have hsm := small i (by omega)
      refine sets_ (P := fun H' v => RL H' v (((rowsOf n i).take j).flatMap (fun r => (List.range n).map fun x => r ++ [x]) ++ (List.range n).map fun x => r ++ [x])) (fun Q q => ev_v rfl _ (rs_rows (r := r) (v := x) (ev_v rfl) (by omega) (fun j H' s => ev_v rfl) (fun j H' => ev_v rfl) (hxr.fx (fx_of s4)) (by omega) _ fun u5 H5 s5 h5 => ?_)) fun v6 H6 s6 h6 => ⟨s4.trans s6, v6, _, _, rfl, ?_⟩
      · obtain ⟨l1, xs1, rfl, e1, p1⟩ := hlv.same s5
        obtain ⟨l2, xs2, rfl, e2, p2⟩ := h5
        have n1 := prd_len p1
        have n2 := prd_len p2
        rw [List.length_map, List.length_range] at n2
        have n3 : (((rowsOf n i).take j).flatMap fun r => (List.range n).map fun x => r ++ [x]).length ≤ 256 * 4 := by
          have h0 : ∀ l : List (List Nat), (l.flatMap fun r => (List.range n).map fun x => r ++ [x]).length ≤ l.length * 4 := fun l => by
            induction l with
            | nil => simp
            | cons a l ih =>
              rw [List.flatMap_cons, List.length_append, List.length_map, List.length_range, List.length_cons]
              omega
          have h1 := h0 ((rowsOf n i).take j)
          have h2 : ((rowsOf n i).take j).length ≤ (rowsOf n i).length := by rw [List.length_take]; omega
          omega
        exact ⟨l1, l2, xs1, xs2, rfl, rfl, e1, e2, by omega, fun p hp => q _ _ (s5.trans (same_new hp)) ⟨p, _, rfl, upd_same, rows_fx (prd_app p1 p2) (fx_new hp)⟩⟩
      · rw [take_snoc hr, List.flatMap_append]
        simpa using h6
    · obtain ⟨s4, lv, c, d, rfl, hlv⟩ := h
      rw [lf, List.take_length] at hlv
      obtain ⟨l1, xs1, rfl, e1, p1⟩ := hlv
      exact sets_ (Rs.imp (rs_list7 (ev_v rfl) e1) fun H' v s ⟨l, e, _, h⟩ => (⟨l, xs1, e, h, rows_fx p1 (fx_of s)⟩ : RL H' v (rowsOf n (i + 1)))) fun v5 H5 s5 h5 => ⟨(s2.trans s3).trans (s4.trans s5), v5, _, _, _, _, rfl, h5⟩
  · obtain ⟨s2, fv, a, b, c, d, rfl, fa, fvs, rfl, hfa, pf⟩ := h
    refine ret_ (ev_v rfl) (q fa fvs H' s2 hfa ?_)
    have hne : ∀ r ∈ rowsOf n k, r ≠ [] := fun r hr z => by
      have := (mem_rowsOf.mp hr).1
      rw [z] at this
      simp at this
      omega
    refine prd_of (prd_len pf) fun j x y h1 h2 => ?_
    obtain ⟨r, hr, h3⟩ := prd_at' pf h1
    rw [h2] at hr
    cases hr
    rcases h3 with ⟨z, _⟩ | ⟨_, h3⟩
    · exact absurd z (hne _ (List.mem_of_getElem? h2))
    · exact h3
def spKeeps7 : Sp := fun vs H Q _ => ∃ (v u z : V) (a b : List (List Nat)) (f : List Nat), vs = [v, u, z] ∧ Lt H v a ∧ Lt H u b ∧ Sq a ∧ Sq b ∧ TnF H z f ∧ f.length = a.length ∧ (∀ y ∈ f, y < b.length) ∧ ∀ H', Same H H' → Q (.bl (keepsB a b f)) H'
theorem sc_l_keeps : FnScope ["_law_one", "_law_two", "_law_images", "_law_n", "_law_x", "_law_y"] ["_law_one", "_law_two", "_law_images"] (defScope s_law_keeps) := ⟨rfl, rfl, rfl, by decide +kernel, rfl, by decide +kernel, by decide +kernel⟩
theorem h_l_keeps (D : Dfn K mg "_law_keeps" s_law_keeps) (T : Bl mg)  : Has P w K mg base "_law_keeps" ["_law_one", "_law_two", "_law_images"] 1 (spKeeps7) := by
  refine D.has sc_l_keeps (fun _ _ _ _ _ _ us hl => match us, hl with | [_, _, _], _ => rfl) (fun vs H Q E h => by obtain ⟨v, u, z, a, b, f7, rfl, _⟩ := h; rfl) (fun f cdv A outer s H vs Q E hr h => ⟨_, (pss_cons (ps_set (i := 3) sc_l_keeps.nd rfl (Or.inl rfl) (pe_callB len7 (by rfl) T.len (by decide +kernel) (pa_cons (pv 0) pa_nil)))
      (pss_cons (ps_for PassesOwn.never (by rfl) (pi_range1 (by rfl) T.range (pa_cons (pv 3) pa_nil)) (pg_name (i := 4) sc_l_keeps.nd rfl (Or.inl rfl)) (pss_one (ps_for PassesOwn.never (by rfl) (pi_range1 (by rfl) T.range (pa_cons (pv 3) pa_nil)) (pg_name (i := 5) sc_l_keeps.nd rfl (Or.inl rfl)) (pss_one (ps_if (pt_cmpR op_ne (pe_ix ix7F (pv 2) (pe_ix ix7T (pe_ix ix7L (pv 0) (pv 4) (fun _ _ => rfl)) (pv 5) (fun _ _ => rfl)) (fun _ _ => rfl)) (pe_ix ix7T (pe_ix ix7L (pv 1) (pe_ix ix7F (pv 2) (pv 4) (fun _ _ => rfl)) (fun _ _ => rfl)) (pe_ix ix7F (pv 2) (pv 5) (fun _ _ => rfl)) (fun _ _ => rfl)) (nomark _)) (pss_one (ps_ret pe_bl)) pss_nil)))))
      (pss_one (ps_ret pe_bl)))), ?_⟩)
  obtain ⟨v, u, z, a, b, f7, rfl, hv, hu, Sa, Sb, hz, hl, hlt, q⟩ := h
  have h24 := Sa.le
  have fin : ∀ {x}, x < a.length → at' f7 x < b.length := fun h => hlt _ (at_mem (by omega))
  refine sq_ (set_ (ev_lenLt (ev_v rfl) hv) (sq_ (forR_ (n := a.length) (ev_v rfl) (sl1000 (by omega)) (fun x σ H' => H' = H ∧ (∀ x' y', x' < x → y' < a.length → at' f7 (mul a x' y') = mul b (at' f7 x') (at' f7 y')) ∧ ∃ c d, σ = [some v, some u, some z, some (.int (a.length : Nat)), c, d]) ⟨rfl, fun x' y' h => (by omega), none, none, rfl⟩ (fun x σ H' hx h => ?_) fun σ H' h => ?_)))
  · obtain ⟨rfl, inv, c, d, rfl⟩ := h
    refine forR_ (n := a.length) (ev_v rfl) (sl1000 (by omega)) (fun y σ H2 => H2 = H' ∧ (∀ y', y' < y → at' f7 (mul a x y') = mul b (at' f7 x) (at' f7 y')) ∧ ∃ d, σ = [some v, some u, some z, some (.int (a.length : Nat)), some (.int (x : Nat)), d]) ⟨rfl, fun y' h => (by omega), d, rfl⟩ (fun y σ H2 hy h => ?_) fun σ H2 h => ?_
    · obtain ⟨rfl, inv2, d, rfl⟩ := h
      have hm := Sa.mul_lt hx hy
      have e1 := ev_ixF (σ := [some v, some u, some z, some (.int (a.length : Nat)), some (.int (x : Nat)), some (.int (y : Nat))]) (ev_v (i := 2) rfl) hz (ev_lt2 (ev_v (i := 0) rfl) hv (ev_v (i := 4) rfl) (ev_v (i := 5) rfl) hx (by rw [sq_row Sa hx]; exact hy)) (by omega)
      have e2 := ev_lt2 (σ := [some v, some u, some z, some (.int (a.length : Nat)), some (.int (x : Nat)), some (.int (y : Nat))]) (ev_v (i := 1) rfl) hu (ev_ixF (ev_v (i := 2) rfl) hz (ev_v (i := 4) rfl) (by omega)) (ev_ixF (ev_v (i := 2) rfl) hz (ev_v (i := 5) rfl) (by omega)) (fin hx) (by rw [sq_row Sb (fin hx)]; exact fin hy)
      refine ifn_ (et_t (ev_neN e1 e2)) (fun hb => ?_) fun hb => ?_
      · have ne : ¬ at' f7 (mul a x y) = mul b (at' f7 x) (at' f7 y) := by simpa using hb
        refine ret_ ev_c ?_
        have : keepsB a b f7 = false := by
          cases hk : keepsB a b f7 with
          | false => rfl
          | true => exact absurd (keepsB_iff.mp hk x y hx hy) ne
        have q2 := q H2 (Same.refl _)
        rwa [this] at q2
      · have e : at' f7 (mul a x y) = mul b (at' f7 x) (at' f7 y) := by simpa using hb
        refine ⟨rfl, fun y' h => ?_, _, rfl⟩
        by_cases ey : y' = y
        · rw [ey]; exact e
        · exact inv2 y' (by omega)
    · obtain ⟨rfl, inv2, d, rfl⟩ := h
      refine ⟨rfl, fun x' y' h1 h2 => ?_, _, _, rfl⟩
      by_cases ex : x' = x
      · rw [ex]; exact inv2 y' h2
      · exact inv x' y' (by omega) h2
  · obtain ⟨rfl, inv, c, d, rfl⟩ := h
    have q2 := q H' (Same.refl _)
    rw [keepsB_iff.mpr inv] at q2
    exact ret_ ev_c q2
def spKernel : Sp := fun vs H Q _ => ∃ (z : V) (f : List Nat), vs = [z] ∧ TnF H z f ∧ f.length ≤ 1000 ∧ ∀ u H', Same H H' → Tn H' u (ker f) → Q u H'
theorem sc_l_kernel : FnScope ["_law_images", "_law_y"] ["_law_images"] (defScope s_law_kernel) := ⟨rfl, rfl, rfl, by decide +kernel, rfl, by decide +kernel, by decide +kernel⟩
theorem h_l_kernel (D : Dfn K mg "_law_kernel" s_law_kernel) (T : Bl mg)  : Has P w K mg base "_law_kernel" ["_law_images"] 1 (spKernel) := by
  refine D.has sc_l_kernel (fun _ _ _ _ _ _ us hl => match us, hl with | [_], _ => rfl) (fun vs H Q E h => by obtain ⟨z, f7, rfl, _⟩ := h; rfl) (fun f cdv A outer s H vs Q E hr h => ⟨_, (pss_one (ps_ret (pe_callTy tup7 (by rfl) T.tuple (by decide +kernel) (pa_cons (pe_lc (own := [("_law_y", 1)]) (g := gName 1) (by rfl) sc_l_kernel.nd (pi7T K (pv 0)) (blkOk_by (by kernel_rfl)) (fun _ _ _ _ _ => pg_name (i := 1) sc_l_kernel.nd rfl (Or.inl rfl)) (fun _ _ _ _ _ => pts_nil) (fun _ _ _ _ _ => (pe_tix (hu65 hr) (pv 0) (pa_cons (pv 1) pa_nil)))) pa_nil)))), ?_⟩)
  obtain ⟨z, f7, rfl, hz, hl, q⟩ := h
  refine rets_ (rs_tupN (lcN_tupF (fun y => f7.idxOf y) (ev_v rfl) hz hl fun j H' hj s Q q => ev_v (v := z) rfl _ ⟨⟨f7, hz.same s⟩, ev_v (v := .int (at' f7 j : Nat)) rfl _ ⟨at' f7 j, f7, rfl, hz.same s, at_mem hj, q⟩⟩)) fun u H' s h => q u H' s h
def spLRef : Sp := fun vs H Q _ => ∃ (v u : V) (c d : List Nat), vs = [v, u] ∧ Tn H v c ∧ Tn H u d ∧ d.length = c.length ∧ (∀ x, x < c.length → at' c x < c.length) ∧ c.length ≤ 1000 ∧ ∀ H', Same H H' → Q (.bl (refB c d)) H'
theorem sc_l_refines : FnScope ["_law_c", "_law_d", "_law_x"] ["_law_c", "_law_d"] (defScope s_law_refines) := ⟨rfl, rfl, rfl, by decide +kernel, rfl, by decide +kernel, by decide +kernel⟩
theorem h_l_refines (D : Dfn K mg "_law_refines" s_law_refines) (T : Bl mg)  : Has P w K mg base "_law_refines" ["_law_c", "_law_d"] 1 (spLRef) := by
  refine D.has sc_l_refines (fun _ _ _ _ _ _ us hl => match us, hl with | [_, _], _ => rfl) (fun vs H Q E h => by obtain ⟨v, u, c, d, rfl, _⟩ := h; rfl) (fun f cdv A outer s H vs Q E hr h => ⟨_, (pss_one (ps_ret (pe_cmpR op_eq (pe_callB len7 (by rfl) T.len (by decide +kernel) (pa_cons (pe_lc (own := [("_law_x", 2)]) (g := gName 2) (by rfl) sc_l_refines.nd (pi_range1 (by rfl) T.range (pa_cons (pe_callB len7 (by rfl) T.len (by decide +kernel) (pa_cons (pv 0) pa_nil)) pa_nil)) (blkOk_by (by kernel_rfl)) (fun _ _ _ _ _ => pg_name (i := 2) sc_l_refines.nd rfl (Or.inl rfl)) (fun _ _ _ _ _ => (pts_one (pt_cmpR op_ne (pe_ix ix7T (pv 1) (pv 2) (fun _ _ => rfl)) (pe_ix ix7T (pv 1) (pe_ix ix7T (pv 0) (pv 2) (fun _ _ => rfl)) (fun _ _ => rfl)) (nomark _)))) (fun _ _ _ _ _ => (pv 2))) pa_nil)) pe_int (nomark _)))), ?_⟩)
  obtain ⟨v, u, c, d, rfl, hc, hd, hl, hlt, hn, q⟩ := h
  refine rets_ (P := fun _ x => x = .bl (refB c d)) (fun Q q => rs_lenN (lcN_range (fun x => !decide (at' d x = at' d (at' c x))) (fun x => x) (ev_lenTn (ev_v rfl) hc) hn (fun j H' hj s => et_t (ev_neN (ev_ixT (ev_v rfl) (hd.same s) (ev_v rfl) (by omega)) (ev_ixT (ev_v rfl) (hd.same s) (ev_ixT (ev_v rfl) (hc.same s) (ev_v rfl) hj) (by have := hlt j hj; omega)))) fun j H' hj hb s => ev_v rfl) _ fun w' H1 s1 e1 => ?_) fun x H' s e => e ▸ q H' s
  subst e1
  refine ⟨rfl, q _ _ s1 ?_⟩
  have e : decide (V.int ((((List.range c.length).filter fun x => !decide (at' d x = at' d (at' c x))).map fun x => x).length : Nat) = V.int 0) = refB c d := by
    have h0 : decide (V.int ((((List.range c.length).filter fun x => !decide (at' d x = at' d (at' c x))).map fun x => x).length : Nat) = V.int ((0 : Nat) : Int)) = decide ((((List.range c.length).filter fun x => !decide (at' d x = at' d (at' c x))).map fun x => x).length = 0) := vint_iff
    refine h0.trans ?_
    rw [List.length_map]
    unfold refB
    by_cases hh : (List.range c.length).all (fun x => decide (at' d x = at' d (at' c x))) = true
    · rw [hh, decide_eq_true]
      rw [List.length_eq_zero_iff, List.filter_eq_nil_iff]
      intro x hx
      have := List.all_eq_true.mp hh x hx
      rw [this]
      decide
    · have h1 : (List.range c.length).all (fun x => decide (at' d x = at' d (at' c x))) = false := by simpa using hh
      rw [h1, decide_eq_false]
      intro z
      rw [List.length_eq_zero_iff, List.filter_eq_nil_iff] at z
      refine hh (List.all_eq_true.mpr fun x hx => ?_)
      have := z x hx
      simpa using this
  rw [e]
end
end W7
end
section
set_option Elab.async false
set_option linter.all false
set_option maxRecDepth 100000
set_option maxHeartbeats 1000000
namespace W7
open PySem PySem.Spec PyProof.Rows L2 RZ K37 K37E M7
theorem idxOf_mono {found : List (List Nat)} : True := trivial
structure TI (k : Nat) (ms found0 found : List (List Nat)) (done : List Nat → List Nat → Prop) : Prop where
  inv : FInv k ms found
  ext : ∃ ex, found = found0 ++ ex
  stay : RCl ms found0 → found = found0
  part : 30 ≤ found.length ∨ found0.length < found.length ∨ (found = found0 ∧ ∀ f g, done f g → after f g ∈ found0)
theorem ti_hit {k : Nat} {ms found0 found : List (List Nat)} {done done' : List Nat → List Nat → Prop} {f g : List Nat} (T : TI k ms found0 found done) (h : after f g ∈ found) (hd : ∀ a b, done' a b → done a b ∨ (a = f ∧ b = g)) : TI k ms found0 found done' := by
  refine ⟨T.inv, T.ext, T.stay, ?_⟩
  rcases T.part with p | p | ⟨p, q⟩
  · exact .inl p
  · exact .inr (.inl p)
  · refine .inr (.inr ⟨p, fun a b hab => ?_⟩)
    rcases hd a b hab with z | ⟨rfl, rfl⟩
    · exact q a b z
    · rw [← p]; exact h
theorem ti_full {k : Nat} {ms found0 found : List (List Nat)} {done done' : List Nat → List Nat → Prop} (T : TI k ms found0 found done) (h : 30 ≤ found.length) : TI k ms found0 found done' := ⟨T.inv, T.ext, T.stay, .inl h⟩
theorem ti_new {k : Nat} {ms found0 found : List (List Nat)} {done done' : List Nat → List Nat → Prop} {f g : List Nat} (T : TI k ms found0 found done) (hf : f ∈ found0) (hg : g ∈ ms) (hgm : IsMap k g) (h : after f g ∉ found) : TI k ms found0 (found ++ [after f g]) done' := by
  obtain ⟨ex, e⟩ := T.ext
  have hf2 : f ∈ found := by rw [e]; exact List.mem_append_left _ hf
  have I := T.inv
  refine ⟨⟨fun z hz => ?_, fun z hz => ?_, ?_, by rw [List.length_append]; have := I.pos; omega⟩, ⟨ex ++ [after f g], by rw [e, List.append_assoc]⟩, fun R => ?_, .inr (.inl ?_)⟩
  · rcases List.mem_append.mp hz with q | q
    · exact I.maps z q
    · rw [List.mem_singleton.mp q]
      exact after_map (I.maps f hf2) hgm
  · rcases List.mem_append.mp hz with q | q
    · exact I.good z q
    · rw [List.mem_singleton.mp q]
      exact good_after hg (I.maps f hf2) (I.good f hf2)
  · refine List.nodup_append.mpr ⟨I.nd, List.nodup_cons.mpr ⟨by simp, List.nodup_nil⟩, fun a ha b hb e => ?_⟩
    rw [List.mem_singleton.mp hb] at e
    exact h (e ▸ ha)
  · have e2 := T.stay R
    exact absurd (by rw [e2]; exact R f hf g hg) h
  · have : found.length = found0.length + ex.length := by rw [e, List.length_append]
    rw [List.length_append, List.length_singleton]
    omega
theorem ti_end {k n : Nat} {ms found0 found : List (List Nat)} {done : List Nat → List Nat → Prop} (T : TI k ms found0 found done) (c : CInv ms n found0) (all : ∀ f ∈ found0, ∀ g ∈ ms, done f g) : CInv ms (n + 1) found := by
  obtain ⟨ex, e⟩ := T.ext
  have hl : found.length = found0.length + ex.length := by rw [e, List.length_append]
  rcases T.part with p | p | ⟨p, q⟩
  · exact .inl p
  · rcases c with c | c | c
    · exact .inl (by omega)
    · exact .inr (.inl (by omega))
    · have := T.stay c
      rw [this] at p
      exact absurd p (Nat.lt_irrefl _)
  · rw [p]
    exact .inr (.inr fun f hf g hg => q f g (all f hf g hg))
section
variable {P : Program} {w : World} {K : PySem.W.Frag} {mg : Str → Option Value} {base : Heap} {C : Addr}
def spClosed : Sp := fun vs H Q _ => ∃ (v : V) (k : Nat) (ms : List (List Nat)), vs = [v] ∧ Lt H v ms ∧ (∀ m ∈ ms, IsMap k m) ∧ 0 < ms.length ∧ ms.length ≤ 5 ∧ k ≤ 100 ∧ ∀ u found H', Same H H' → Lt H' u found → FInv k ms found → CInv ms 30 found → found.length ≤ 100 → Q u H'
theorem sc_l_closed : FnScope ["_law_maps", "_law_found", "_law_f", "_law_turn", "_law_g", "_law_h"] ["_law_maps"] (defScope s_law_closed) := ⟨rfl, rfl, rfl, by decide +kernel, rfl, by decide +kernel, by decide +kernel⟩
theorem h_l_closed (D : Dfn K mg "_law_closed" s_law_closed) (T : Bl mg) (H_l_after : Has P w K mg base "_law_after" ["_law_f", "_law_g"] 1 spAfter) : Has P w K mg base "_law_closed" ["_law_maps"] 2 (spClosed) := by
  refine D.has sc_l_closed (fun _ _ _ _ _ _ us hl => match us, hl with | [_], _ => rfl) (fun vs H Q E h => by obtain ⟨v, k, ms, rfl, _⟩ := h; rfl) (fun f cdv A outer s H vs Q E hr h => ⟨_, (pss_cons (ps_set (i := 1) sc_l_closed.nd rfl (Or.inl rfl) (pe_lst pa_nil))
      (pss_cons (ps_for PassesOwn.never (by rfl) (pi7L K (pv 0)) (pg_name (i := 2) sc_l_closed.nd rfl (Or.inl rfl)) (pss_one (ps_if (pt_cmpR (nt7 (hu65 hr)) (pv 2) (pv 1) (by rfl)) (pss_one (ps_expr (pe_l7 PySem.F.slot_list_append PySem.F.type_list_append app7 (pv 1) (pa_cons (pv 2) pa_nil)))) pss_nil)))
      (pss_cons (ps_for PassesOwn.never (by rfl) (pi_range1 (by rfl) T.range (pa_cons pe_int pa_nil)) (pg_name (i := 3) sc_l_closed.nd rfl (Or.inl rfl)) (pss_one (ps_for PassesOwn.never (by rfl) (pi7L K (pe_callTy list7 (by rfl) T.list (by decide +kernel) (pa_cons (pv 1) pa_nil))) (pg_name (i := 2) sc_l_closed.nd rfl (Or.inl rfl)) (pss_one (ps_for PassesOwn.never (by rfl) (pi7L K (pv 0)) (pg_name (i := 4) sc_l_closed.nd rfl (Or.inl rfl)) (pss_cons (ps_set (i := 5) sc_l_closed.nd rfl (Or.inl rfl) (pe_has H_l_after (hr.mono (by decide)) (pa_cons (pv 2) (pa_cons (pv 4) pa_nil))))
      (pss_one (ps_if (PW.pt (pw_and (pt_cmpR (nt7 (hu65 hr)) (pv 5) (pv 1) (by rfl)) (pw_and1 (pt_cmpR op_lt (pe_callB len7 (by rfl) T.len (by decide +kernel) (pa_cons (pv 1) pa_nil)) pe_int (nomark _))))) (pss_one (ps_expr (pe_l7 PySem.F.slot_list_append PySem.F.type_list_append app7 (pv 1) (pa_cons (pv 5) pa_nil)))) pss_nil))))))))
      (pss_one (ps_ret (pv 1)))))), ?_⟩)
  obtain ⟨v, k, ms, rfl, hv, hm, hpos, h5, hk, q⟩ := h
  have big : 1000000 < sizeLine := by decide
  obtain ⟨p, mvs, rfl, hp, pm⟩ := hv
  have lm := prd_len pm
  refine sq_ (sets_ rs_lst0 fun v1 H1 s1 ⟨fl, e1, hfl0, hfl⟩ => ?_)
  subst e1
  refine sq_ (forL_ (p := p) (xs := mvs) (ev_v rfl) (s1 _ _ hp) (fun i σ H' => Same H H' ∧ ∃ us found a b c d, σ = [some (.ref p), some (.ref fl), a, b, c, d] ∧ H' fl = some (.lst us) ∧ Paired (Tn H') us found ∧ (∀ f ∈ found, f ∈ ms) ∧ found.Nodup ∧ found.length ≤ i ∧ (0 < i → 0 < found.length)) ⟨s1, [], [], none, none, none, none, rfl, hfl, .nil, fun f hf => (by cases hf), List.nodup_nil, Nat.le_refl _, fun z => absurd z (by decide)⟩ (fun i σ H' h => h.1 _ _ hp) (fun i x σ H' hx h => ?_) fun σ H' h => ?_)
  · obtain ⟨s2, us, found, a, b, c, d, rfl, hus, pus, sub, nd, le, ps⟩ := h
    obtain ⟨m, hm2, hxm⟩ := prd_at' pm hx
    have hi := (List.getElem?_eq_some_iff.mp hm2).1
    have hx2 := hxm.same s2
    refine ifn_ (et_nt7 (ev_v rfl) (ev_v rfl) hx2 ⟨fl, us, rfl, hus, pus⟩) (fun hb => ?_) fun hb => ?_
    · have nin := of_decide_eq_true hb
      refine app_ (l := fl) (xs := us) (P := fun H' v => Tn H' v m) (ev_v rfl) hus ((ev_v rfl).rs hx2) (by rw [prd_len pus]; omega) fun v3 H3 s3 h3 => ?_
      have fx3 := fx_put (o := HO.lst (us ++ [v3])) (s3 _ _ hus)
      refine ⟨same_put (s2.trans s3) hfl0, us ++ [v3], found ++ [m], _, _, _, _, rfl, upd_same, prd_app (tns_fx pus ((fx_of s3).trans fx3)) (prd_one (h3.fx fx3)), fun f hf => ?_, ?_, by rw [List.length_append, List.length_singleton]; omega, fun _ => by rw [List.length_append, List.length_singleton]; omega⟩
      · rcases List.mem_append.mp hf with z | z
        · exact sub f z
        · rw [List.mem_singleton.mp z]; exact List.mem_of_getElem? hm2
      · refine List.nodup_append.mpr ⟨nd, List.nodup_cons.mpr ⟨by simp, List.nodup_nil⟩, fun a ha b hb e => ?_⟩
        rw [List.mem_singleton.mp hb] at e
        exact nin (e ▸ ha)
    · have inn : m ∈ found := Classical.byContradiction fun z => of_decide_eq_false hb z
      exact ⟨s2, us, found, _, _, _, _, rfl, hus, pus, sub, nd, by omega, fun _ => List.length_pos_of_mem inn⟩
  obtain ⟨s2, us, found, a, b, c, d, rfl, hus, pus, sub, nd, le, ps⟩ := h
  have hf0 := ps (by rw [lm]; exact hpos)
  have I0 : FInv k ms found := ⟨fun f hf => hm f (sub f hf), fun f hf => good_gen (sub f hf), nd, hf0⟩
  refine sq_ (forR_ (n := 30) (ev_c (v := .int (30 : Nat))) (by omega) (fun n σ H' => Same H H' ∧ ∃ us found a b c d, σ = [some (.ref p), some (.ref fl), a, b, c, d] ∧ H' fl = some (.lst us) ∧ Paired (Tn H') us found ∧ FInv k ms found ∧ CInv ms n found ∧ found.length ≤ 30) ⟨s2, us, found, a, b, c, d, rfl, hus, pus, I0, .inr (.inl hf0), by omega⟩ (fun n σ H' hn h => ?_) fun σ H' h => ?_)
  · obtain ⟨s3, us, found0, a, b, c, d, rfl, hus, pus, I, ci, l30⟩ := h
    refine forLs_ (rs_list7 (ev_v rfl) hus) fun v4 H4 s4 ⟨cp, e4, hcp0, hcp⟩ => ?_
    subst e4
    have ncf : cp ≠ fl := fun z => by rw [z, hus] at hcp0; cases hcp0
    have lus := prd_len pus
    refine forL_ (p := cp) (xs := us) ev_c hcp (fun i σ H' => (Same H H' ∧ Fx H4 H' ∧ H' cp = some (.lst us)) ∧ ∃ us2 found a b c d, σ = [some (.ref p), some (.ref fl), a, b, c, d] ∧ H' fl = some (.lst us2) ∧ Paired (Tn H') us2 found ∧ TI k ms found0 found (fun f g => f ∈ found0.take i ∧ g ∈ ms) ∧ found.length ≤ 30)
      ⟨⟨s3.trans s4, Fx.refl _, hcp⟩, us, found0, a, _, c, d, rfl, s4 _ _ hus, tns_fx pus (fx_of s4), ⟨I, ⟨[], by simp⟩, fun _ => rfl, .inr (.inr ⟨rfl, fun f g h => (by simp at h)⟩)⟩, l30⟩ (fun i σ H' h => h.1.2.2) (fun i x σ H' hx h => ?_) fun σ H' h => ?_
    · obtain ⟨⟨s5, f5, hcp5⟩, us2, found, a, b, c, d, rfl, hus2, pus2, T2, l302⟩ := h
      obtain ⟨f, hf, hxf⟩ := prd_at' (tns_fx pus (fx_of s4)) hx
      have hfm := List.mem_of_getElem? hf
      refine forL_ (p := p) (xs := mvs) (ev_v rfl) (s5 _ _ hp) (fun j σ H' => (Same H H' ∧ Fx H4 H' ∧ H' cp = some (.lst us)) ∧ ∃ us2 found b c d, σ = [some (.ref p), some (.ref fl), some x, b, c, d] ∧ H' fl = some (.lst us2) ∧ Paired (Tn H') us2 found ∧ TI k ms found0 found (fun f' g => (f' ∈ found0.take i ∧ g ∈ ms) ∨ (f' = f ∧ g ∈ ms.take j)) ∧ found.length ≤ 30)
        ⟨⟨s5, f5, hcp5⟩, us2, found, b, c, d, rfl, hus2, pus2, ⟨T2.inv, T2.ext, T2.stay, T2.part.elim .inl fun h => .inr (h.elim .inl fun h => .inr ⟨h.1, fun f g hd => h.2 f g (hd.elim (fun z => z) fun z => (by simp at z))⟩)⟩, l302⟩ (fun j σ H' h => h.1.1 _ _ hp) (fun j y σ H' hy h => ?_) fun σ H' h => ?_
      · obtain ⟨⟨s6, f6, hcp6⟩, us2, found, b, c, d, rfl, hus2, pus2, T2, l302⟩ := h
        obtain ⟨g, hg, hyg⟩ := prd_at' pm hy
        have hgm := List.mem_of_getElem? hg
        have Mf := I.maps f hfm
        have Mg := hm g hgm
        refine sq_ (sets_ (rs_call (P := fun H' u => Tn H' u (after f g)) (ea_cons (ev_v rfl) (ea_cons (ev_v rfl) ea_nil)) fun Q q => ⟨x, y, k, f, g, rfl, hxf.fx f6, hyg.same s6, Mf, Mg, hk, fun u H' s h => q u H' s h⟩) fun hv H7 s7 hhv => ?_)
        have hus7 := s7 _ _ hus2
        have pus7 := tns_fx pus2 (fx_of s7)
        have nxt : ∀ a b, ((a ∈ found0.take i ∧ b ∈ ms) ∨ (a = f ∧ b ∈ ms.take (j + 1))) → ((a ∈ found0.take i ∧ b ∈ ms) ∨ (a = f ∧ b ∈ ms.take j)) ∨ (a = f ∧ b = g) := fun a b h => by
          rcases h with h | ⟨h1, h2⟩
          · exact .inl (.inl h)
          · rcases take_mem hg h2 with z | z
            · exact .inl (.inr ⟨h1, z⟩)
            · exact .inr ⟨h1, z⟩
        refine ifn_ (b := decide (after f g ∉ found) && decide (found.length < 30)) (et_and (et_nt7 (ev_v rfl) (ev_v rfl) hhv ⟨fl, us2, rfl, hus7, pus7⟩) fun _ => et_of (et_t (ev_ltN (ev_lenL (ev_v rfl) hus7) (ev_c (v := .int (30 : Nat))))) (by rw [prd_len pus7])) (fun hb => ?_) fun hb => ?_
        · rw [Bool.and_eq_true] at hb
          have nin := of_decide_eq_true hb.1
          have l30' := of_decide_eq_true hb.2
          refine app_ (l := fl) (xs := us2) (P := fun H' v => Tn H' v (after f g)) (ev_v rfl) hus7 ((ev_v rfl).rs hhv) (by rw [prd_len pus7]; omega) fun v8 H8 s8 h8 => ?_
          have fx8 := fx_put (o := HO.lst (us2 ++ [v8])) (s8 _ _ hus7)
          exact ⟨⟨same_put (s6.trans (s7.trans s8)) hfl0, f6.trans ((fx_of (s7.trans s8)).trans fx8), by rw [upd_ne ncf]; exact s8 _ _ (s7 _ _ hcp6)⟩, us2 ++ [v8], found ++ [after f g], _, _, _, rfl, upd_same, prd_app (tns_fx pus7 ((fx_of s8).trans fx8)) (prd_one (h8.fx fx8)), ti_new T2 hfm hgm Mg nin, by rw [List.length_append, List.length_singleton]; omega⟩
        · refine ⟨⟨s6.trans s7, f6.trans (fx_of s7), s7 _ _ hcp6⟩, us2, found, _, _, _, rfl, hus7, pus7, ?_, l302⟩
          by_cases hin : after f g ∈ found
          · exact ti_hit T2 hin nxt
          · refine ti_full T2 ?_
            rw [decide_eq_true hin, Bool.true_and] at hb
            have := of_decide_eq_false hb
            omega
      · obtain ⟨⟨s6, f6, hcp6⟩, us2, found, b, c, d, rfl, hus2, pus2, T2, l302⟩ := h
        rw [lm, List.take_length] at T2
        refine ⟨⟨s6, f6, hcp6⟩, us2, found, _, _, _, _, rfl, hus2, pus2, ⟨T2.inv, T2.ext, T2.stay, T2.part.elim .inl fun h => .inr (h.elim .inl fun h => .inr ⟨h.1, fun f' g hd => h.2 f' g ?_⟩)⟩, l302⟩
        rcases take_mem hf hd.1 with z | z
        · exact .inl ⟨z, hd.2⟩
        · exact .inr ⟨z, hd.2⟩
    · obtain ⟨⟨s5, f5, hcp5⟩, us2, found, a, b, c, d, rfl, hus2, pus2, T2, l302⟩ := h
      refine ⟨s5, us2, found, _, _, _, _, rfl, hus2, pus2, T2.inv, ti_end T2 ci fun f hf g hg => ⟨?_, hg⟩, l302⟩
      rw [lus, List.take_length]
      exact hf
  · obtain ⟨s3, us, found, a, b, c, d, rfl, hus, pus, I, ci, l30⟩ := h
    exact ret_ (ev_v rfl) (q _ found H' s3 ⟨fl, us, rfl, hus, pus⟩ I ci (by omega))
end
end W7
end
section
set_option Elab.async false
set_option linter.all false
set_option maxRecDepth 100000
set_option maxHeartbeats 1000000
namespace W7
open PySem PySem.Spec PyProof.Rows L2 RZ K37 K37E M7
/-- what a drawing expression comes to -/
def Rd7 (l : Addr) (t : TE) (σ : L2.St) (H : Hp) (P : Hp → V → Prop) : Prop := ∀ Q : VK, (∀ v H', Dr l H H' → P H' v → Q v H') → t σ H Q
def St7 (D l : Addr) (H1 H2 : Hp) : Prop := ∀ b o, b ≠ D → b ≠ l → H1 b = some o → H2 b = some o
section
variable {nx bk ct : L2.St → Hp → Prop} {rt : VK} {σ : L2.St} {H : Hp} {te to ta tb el : TE} {K : PySem.W.Frag} {l : Addr} {P : Hp → V → Prop} {i : Nat}
theorem Rs.rd (h : Rs te σ H P) (st : StO H l) : Rd7 l te σ H P := fun Q q => h _ fun v H' s p => q v H' ((Dr.refl st).same s) p
theorem Rd7.imp {P' : Hp → V → Prop} (h : Rd7 l te σ H P) (k : ∀ H' v, Dr l H H' → P H' v → P' H' v) : Rd7 l te σ H P' := fun Q q => h Q fun v H' s p => q v H' s (k H' v s p)
theorem rd_take {ts tm : TE} {m : Nat} (hs : Ev ts σ H (.ref l)) (hm : Ev tm σ H (.int (m : Nat))) (h0 : 0 < m) (h1 : m < 1000) (st : StO H l) : Rd7 l (tCall spTake [] E0 (tCons ts (tCons tm tNil))) σ H fun _ v => ∃ k, k < m ∧ v = .int (k : Nat) := fun Q q => hs _ (hm _ ⟨l, m, rfl, h0, h1, st, fun v a b hv => q _ _ (dr_take a b) ⟨v, hv, rfl⟩⟩)
theorem rd_plus {c : Nat} {m : Nat} (hc : Ev ta σ H (.int (c : Nat))) (h : Rd7 l te σ H fun _ v => ∃ k, k < m ∧ v = .int (k : Nat)) : Rd7 l (tOp (rI0 fun i j => .int (i + j)) ta te) σ H fun _ v => ∃ k, k < m ∧ v = .int ((c + k : Nat) : Int) := fun Q q => hc _ (h _ fun v H' d ⟨k, hk, e⟩ => ⟨c, k, rfl, e, q _ H' d ⟨k, hk, rfl⟩⟩)
theorem setd_ (h : Rd7 l te σ H P) (k : ∀ v H', Dr l H H' → P H' v → nx (σ.set i (some v)) H') : tAsg te (gName i) ⟨nx, rt, bk, ct⟩ σ H := h _ k
theorem retd_ (h : Rd7 l te σ H P) (k : ∀ v H', Dr l H H' → P H' v → rt v H') : tRet te ⟨nx, rt, bk, ct⟩ σ H := h _ k
theorem appd_ {m : Addr} {xs : List V} (ho : Ev to σ H (.ref m)) (h : H m = some (.lst xs)) (n : m ≠ l) (he : Rd7 l te σ H P) (hs : xs.length < sizeLine) (k : ∀ v H', Dr l H H' → P H' v → nx σ (upd H' m (.lst (xs ++ [v])))) :
    tDrop (tM isL rApp7 to (tCons te tNil)) ⟨nx, rt, bk, ct⟩ σ H := ho _ ⟨⟨m, xs, rfl, h⟩, he _ fun v H' d p => ⟨m, xs, v, rfl, rfl, d.but _ _ n h, hs, k v H' d p⟩⟩
theorem forRd_ {g : TG} {bd : TS} (h : Rd7 l te σ H P) (k : ∀ v H', Dr l H H' → P H' v → tFor (iRng1 (tCons (tC v) tNil)) g bd ⟨nx, rt, bk, ct⟩ σ H') : tFor (iRng1 (tCons te tNil)) g bd ⟨nx, rt, bk, ct⟩ σ H := h _ k
theorem rd_tup {C : List Nat → Prop} (h : Rd7 l te σ H fun H' v => ∃ ns, C ns ∧ Ln H' v ns) : Rd7 l (tCB rTup7 (tCons te tNil)) σ H fun H' v => ∃ ns, C ns ∧ Tn H' v ns := fun Q q => h _ fun v H' d ⟨ns, c, a, e, ha⟩ => ⟨a, nv ns, by rw [e], .inl ⟨ha, fun p hp => q _ _ (d.same (same_new hp)) ⟨ns, c, p, rfl, upd_same⟩⟩⟩
/-- a comprehension whose items are drawn -/
theorem lcD_range {n : Nat} (r : Addr → Nat → Hp → V → Prop) (st : StO H l) (hn : Ev te σ H (.int (n : Nat))) (h1 : n ≤ 1000)
    (im : ∀ D j H1 H2 v, St7 D l H1 H2 → r D j H1 v → r D j H2 v) (he : ∀ D j H' vs, j < n → D ≠ l → H' D = some (.lst vs) → Dr l H H' → Rd7 l el (σ.set i (some (.int (j : Nat)))) H' (r D j)) :
    Rd7 l (tLc (iRng1 (tCons te tNil)) (gName i) tYes el [i]) σ H fun H' v => ∃ D vs, v = .ref D ∧ H D = none ∧ H' D = some (.lst vs) ∧ Paired (fun v j => r D j H' v) vs (List.range n) := fun Q q => by
  refine hn _ ⟨n, rfl, by omega, by omega, fun D hD => ?_⟩
  rw [Int.toNat_natCast]
  have nl : D ≠ l := by
    obtain ⟨a, b, e⟩ := st
    intro z
    rw [z, e] at hD
    cases hD
  refine lc_range (fun j H' => Dr l H H' ∧ ∃ vs, H' D = some (.lst vs) ∧ Paired (fun v j => r D j H' v) vs (List.range j)) ⟨(Dr.refl st).same (same_new hD), [], upd_same, .nil⟩ (fun j H' hj h => ?_) fun H' ⟨d, vs, e, p⟩ => q _ _ d ⟨D, vs, rfl, hD, e, p⟩
  obtain ⟨d, vs, e, p⟩ := h
  rw [Int.zero_add]
  have ew : (wipe σ [i]).set i (some (.int (j : Nat))) = σ.set i (some (.int (j : Nat))) := set2
  unfold gName
  rw [ew]
  refine ⟨by rw [wipe1, wipe1, set2], es_yes (σ := σ.set i (some (.int (j : Nat)))) (H := H') _ fun H3 s3 => iteT (he D j H3 vs hj nl (s3 _ _ e) (d.same s3) _ fun y H4 d4 q4 => ?_)⟩
  have e4 := d4.but _ _ nl (s3 _ _ e)
  have st34 : St7 D l H' (upd H4 D (.lst (vs ++ [y]))) := fun b o n1 n2 hb => by rw [upd_ne n1]; exact d4.but b o n2 (s3 b o hb)
  refine ⟨vs, e4, ?_, (((d.same s3).trans d4).put hD nl), vs ++ [y], upd_same, ?_⟩
  · rw [prd_len p, List.length_range]
    have : 1000 < sizeLine := by decide
    omega
  · rw [List.range_succ]
    exact prd_app (prd_imp p fun v k h => im D k _ _ v st34 h) (prd_one (im D j _ _ y (fun b o n1 n2 hb => by rw [upd_ne n1]; exact hb) q4))
theorem set_self {x : Option V} : ∀ {σ : L2.St} {i : Nat}, σ[i]? = some x → σ.set i x = σ
  | [], _, h => by simp at h
  | y :: σ, 0, h => by simp at h; subst h; rfl
  | y :: σ, i + 1, h => by
    show y :: σ.set i x = y :: σ
    rw [set_self (by simpa using h)]
theorem ifset_ {c : TT} {b : Bool} {v0 : V} (h : Et c σ H b) (hi : σ[i]? = some (some v0)) (h0 : b = false → P H v0) (h1 : b = true → Rs te σ H P) (k : ∀ v H', Same H H' → P H' v → nx (σ.set i (some v)) H') : tIfS c (tAsg te (gName i)) tNext ⟨nx, rt, bk, ct⟩ σ H :=
  ifn_ h (fun hb => sets_ (h1 hb) k) fun hb => by
    have := k v0 H (Same.refl H) (h0 hb)
    rwa [set_self hi] at this
theorem rs_call1s {sp : Sp} {P' : Hp → V → Prop} (ha : Rs ta σ H P) (k : ∀ u H', Same H H' → P H' u → ∀ Q : VK, (∀ v H'', Same H' H'' → P' H'' v → Q v H'') → sp [u] H' Q E0) : Rs (tCall sp [] E0 (tCons ta tNil)) σ H P' := fun Q q => ha _ fun u H1 s1 h1 => k u H1 s1 h1 _ fun v H2 s2 h2 => q v H2 (s1.trans s2) h2
theorem draw_nv {n m : Nat} {vs : List V} {js : List Nat} (p : Paired (fun v (_ : Nat) => ∃ z, z < m ∧ v = V.int (z : Nat)) vs js) : ∃ ns, vs = nv ns ∧ ns.length = js.length ∧ ∀ z ∈ ns, z < m := by
  induction p with
  | nil => exact ⟨[], rfl, rfl, fun z hz => by cases hz⟩
  | cons r _ ih =>
    obtain ⟨z, hz, rfl⟩ := r
    obtain ⟨ns, e1, e2, e3⟩ := ih
    exact ⟨z :: ns, by rw [e1]; rfl, by simp [e2], fun y hy => (List.mem_cons.mp hy).elim (fun h => by rw [h]; exact hz) (e3 y)⟩
/-- numbers over a list of rows -/
theorem lcN_rows {x : V} {t : List (List Nat)} (f : List Nat → Nat) (hn : Ev te σ H x) (hx : Lt H x t) (h1 : t.length ≤ 1000)
    (he : ∀ r v H', r ∈ t → Same H H' → Tn H' v r → Rs el (σ.set i (some v)) H' fun _ u => u = .int (f r : Nat)) : Rs (tLc (iList K te) (gName i) tYes el [i]) σ H fun H' v => Ln H' v (t.map f) := fun Q q => by
  obtain ⟨p, vs, rfl, hp, pr⟩ := hx
  have hl := prd_len pr
  refine LcB.list (x := fun j => vs.getD j .non) (b := fun _ => true) (r := fun j _ u => u = .int (f (t.getD j []) : Nat)) ⟨fun j H' hj s => es_yes, fun j H' hj hb s => ?_, fun _ _ _ _ _ h => h, by rw [hl]; exact sl1000 h1⟩ hn hp (fun j hj => getD_at hj) fun D H' us hD s e p => q _ _ s ⟨D, rfl, ?_⟩
  · obtain ⟨r, hr, h⟩ := prd_at' pr (getD_at (d := .non) hj)
    have e2 : t.getD j [] = r := by rw [List.getD_eq_getElem?_getD, hr]; rfl
    rw [e2]
    exact he r _ H' (List.mem_of_getElem? hr) s (h.same s)
  · rw [filter_true, hl] at p
    have e5 : t.map f = (List.range t.length).map fun j => f (t.getD j []) := by
      apply List.ext_getElem (by simp)
      intro j h1 h2
      rw [List.getElem_map, List.getElem_map, List.getElem_range, row_getD]
    rw [e, e5, prd_fun p]
end
section
variable {P : Program} {w : World} {K : PySem.W.Frag} {mg : Str → Option Value} {base : Heap} {C : Addr}
def spTab : Sp := fun vs H Q _ => ∃ (l : Addr), vs = [.ref l, .int 4] ∧ StO H l ∧ ∀ u t H', Dr l H H' → Lt H' u t → Ok4 t → Q u H'
theorem sc_l_of_maps : FnScope ["_law_state_here", "_law_most", "_law_k", "_law_maps", "_law_turn", "_law_found", "_law_x", "_law_f", "_law_g"] ["_law_state_here", "_law_most"] (defScope s_law_of_maps) := ⟨rfl, rfl, rfl, by decide +kernel, rfl, by decide +kernel, by decide +kernel⟩
theorem h_l_of_maps (D : Dfn K mg "_law_of_maps" s_law_of_maps) (T : Bl mg) (H_l_take : Has P w K mg base "_law_take" ["_law_state_here", "_law_m"] 1 spTake) (H_l_after : Has P w K mg base "_law_after" ["_law_f", "_law_g"] 1 spAfter) (H_l_closed : Has P w K mg base "_law_closed" ["_law_maps"] 2 spClosed) : Has P w K mg base "_law_of_maps" ["_law_state_here", "_law_most"] 3 (spTab) := by
  refine D.has sc_l_of_maps (fun _ _ _ _ _ _ us hl => match us, hl with | [_, _], _ => rfl) (fun vs H Q E h => by obtain ⟨l, rfl, _⟩ := h; rfl) (fun f cdv A outer s H vs Q E hr h => ⟨_, (pss_cons (ps_set (i := 2) sc_l_of_maps.nd rfl (Or.inr rfl) (pe_op op_add pe_int (pe_has H_l_take (hr.mono (by decide)) (pa_cons (pv 0) (pa_cons pe_int pa_nil)))))
      (pss_cons (ps_set (i := 3) sc_l_of_maps.nd rfl (Or.inr rfl) (pe_lst pa_nil))
      (pss_cons (ps_for PassesOwn.never (by rfl) (pi_range1 (by rfl) T.range (pa_cons (pe_op op_add pe_int (pe_has H_l_take (hr.mono (by decide)) (pa_cons (pv 0) (pa_cons pe_int pa_nil)))) pa_nil)) (pg_name (i := 4) sc_l_of_maps.nd rfl (Or.inl rfl)) (pss_one (ps_expr (pe_l7 PySem.F.slot_list_append PySem.F.type_list_append app7 (pv 3) (pa_cons (pe_callTy tup7 (by rfl) T.tuple (by decide +kernel) (pa_cons (pe_lc (own := [("_law_x", 6)]) (g := gName 6) (by rfl) sc_l_of_maps.nd (pi_range1 (by rfl) T.range (pa_cons (pv 2) pa_nil)) (blkOk_by (by kernel_rfl)) (fun _ _ _ _ _ => pg_name (i := 6) sc_l_of_maps.nd rfl (Or.inl rfl)) (fun _ _ _ _ _ => pts_nil) (fun _ _ _ _ _ => (pe_has H_l_take (hr.mono (by decide)) (pa_cons (pv 0) (pa_cons (pv 2) pa_nil))))) pa_nil)) pa_nil)))))
      (pss_cons (ps_set (i := 5) sc_l_of_maps.nd rfl (Or.inr rfl) (pe_has H_l_closed (hr.mono (by decide)) (pa_cons (pv 3) pa_nil)))
      (pss_cons (ps_if (pt_cmpR op_gt (pe_callB len7 (by rfl) T.len (by decide +kernel) (pa_cons (pv 5) pa_nil)) (pv 1) (nomark _)) (pss_one (ps_set (i := 5) sc_l_of_maps.nd rfl (Or.inr rfl) (pe_has H_l_closed (hr.mono (by decide)) (pa_cons (pe_slice sl7 (pv 3) po_none (po_some pe_int)) pa_nil)))) pss_nil)
      (pss_cons (ps_if (pt_cmpR op_gt (pe_callB len7 (by rfl) T.len (by decide +kernel) (pa_cons (pv 5) pa_nil)) (pv 1) (nomark _)) (pss_one (ps_set (i := 5) sc_l_of_maps.nd rfl (Or.inr rfl) (pe_lst (pa_cons (pe_callTy tup7 (by rfl) T.tuple (by decide +kernel) (pa_cons (pe_lc (own := [("_law_x", 6)]) (g := gName 6) (by rfl) sc_l_of_maps.nd (pi_range1 (by rfl) T.range (pa_cons (pv 2) pa_nil)) (blkOk_by (by kernel_rfl)) (fun _ _ _ _ _ => pg_name (i := 6) sc_l_of_maps.nd rfl (Or.inl rfl)) (fun _ _ _ _ _ => pts_nil) (fun _ _ _ _ _ => (pe_ix ix7T (pe_ix ix7L (pv 3) pe_int (fun _ _ => rfl)) pe_int (fun _ _ => rfl)))) pa_nil)) pa_nil)))) pss_nil)
      (pss_one (ps_ret (pe_lc (own := [("_law_f", 7)]) (g := gName 7) (by rfl) sc_l_of_maps.nd (pi7L K (pv 5)) (blkOk_by (by kernel_rfl)) (fun _ _ _ _ _ => pg_name (i := 7) sc_l_of_maps.nd rfl (Or.inr rfl)) (fun _ _ _ _ _ => pts_nil) (fun _ _ _ _ _ => (pe_callTy tup7 (by rfl) T.tuple (by decide +kernel) (pa_cons (pe_lc (own := [("_law_g", 8)]) (g := gName 8) (by rfl) sc_l_of_maps.nd (pi7L K (pv 5)) (blkOk_by (by kernel_rfl)) (fun _ _ _ _ _ => pg_name (i := 8) sc_l_of_maps.nd rfl (Or.inl rfl)) (fun _ _ _ _ _ => pts_nil) (fun _ _ _ _ _ => (pe_l7 PySem.F.slot_list_index PySem.F.type_list_index (mt7TT (hu65 hr)) (pv 5) (pa_cons (pe_has H_l_after (hr.mono (by decide)) (pa_cons (pv 7) (pa_cons (pv 8) pa_nil))) pa_nil)))) pa_nil)))))))))))), ?_⟩)
  obtain ⟨l, rfl, st, q⟩ := h
  have big : 1000000 < sizeLine := by decide
  refine sq_ (setd_ (rd_plus (c := 2) (m := 2) ev_c (rd_take (m := 2) (ev_v rfl) ev_c (by omega) (by omega) st)) fun v1 H1 d1 ⟨k0, hk0, e1⟩ => ?_)
  subst e1
  obtain ⟨k, ek⟩ : ∃ k, k = 2 + k0 := ⟨_, rfl⟩
  rw [← ek]
  have hk1 : 0 < k := by omega
  have hk2 : k ≤ 3 := by omega
  refine sq_ (sets_ rs_lst0 fun v2 H2 s2 ⟨ml, e2, hml0, hml⟩ => ?_)
  subst e2
  have d2 := d1.same s2
  have nml : ml ≠ l := by
    obtain ⟨a, b, e⟩ := d1.st
    intro z
    rw [z, e] at hml0
    cases hml0
  have hmlH : H ml = none := by
    cases hq : H ml with
    | none => rfl
    | some o =>
      have := d1.but _ _ nml hq
      rw [hml0] at this
      cases this
  refine sq_ (forRd_ (rd_plus (c := 1) (m := 2) ev_c (rd_take (m := 2) (ev_v rfl) ev_c (by omega) (by omega) d2.st)) fun v3 H3 d3 ⟨c0, hc0, e3⟩ => ?_)
  subst e3
  refine forR_ (n := 1 + c0) ev_c (by omega) (fun j σ H' => Dr l H H' ∧ ∃ ms mvs a b c d e, σ = [some (.ref l), some (.int 4), some (.int (k : Nat)), some (.ref ml), a, b, c, d, e] ∧ H' ml = some (.lst mvs) ∧ Paired (Tn H') mvs ms ∧ (∀ m ∈ ms, IsMap k m) ∧ ms.length = j) ⟨d2.trans d3, [], [], none, none, none, none, none, rfl, d3.but _ _ nml hml, .nil, fun m hm => (by cases hm), rfl⟩ (fun j σ H' hj h => ?_) fun σ H' h => ?_
  · obtain ⟨d4, ms, mvs, a, b, c, d, e, rfl, hmv, pm, im, lm⟩ := h
    have lmv := prd_len pm
    refine appd_ (l := l) (m := ml) (xs := mvs) (P := fun H' v => ∃ ns, IsMap k ns ∧ Tn H' v ns) (ev_v rfl) hmv nml (rd_tup (Rd7.imp (lcD_range (n := k) (fun _ _ _ v => ∃ z, z < k ∧ v = .int (z : Nat)) d4.st (ev_v rfl) (by omega) (fun _ _ _ _ _ _ h => h) fun D j H' vs hj nD eD dD => rd_take (m := k) (ev_v rfl) (ev_v rfl) hk1 (by omega) dD.st) fun H5 v d5 ⟨D, vs, e1, _, e2, p2⟩ => ?_)) (by omega) fun v5 H5 d5 ⟨ns, Mn, hn⟩ => ?_
    · obtain ⟨ns, e3, e4, e5⟩ := draw_nv (n := k) p2
      exact ⟨ns, ⟨by rw [e4, List.length_range], e5⟩, D, e1, by rw [e2, e3]⟩
    · have hmv5 := d5.but _ _ nml hmv
      have fx5 := fx_put (o := HO.lst (mvs ++ [v5])) hmv5
      refine ⟨(d4.trans d5).put hmlH nml, ms ++ [ns], mvs ++ [v5], _, _, _, _, _, rfl, upd_same, prd_app (tns_fx pm ((d5.fx d4.st).trans fx5)) (prd_one (hn.fx fx5)), fun m hm => ?_, by rw [List.length_append, List.length_singleton, lm]⟩
      rcases List.mem_append.mp hm with z | z
      · exact im m z
      · rw [List.mem_singleton.mp z]; exact Mn
  · obtain ⟨d4, ms, mvs, a, b, c, d, e, rfl, hmv, pm, im, lm⟩ := h
    obtain ⟨m0, ms', rfl⟩ : ∃ m0 ms', ms = m0 :: ms' := by
      cases ms with
      | nil => simp at lm; omega
      | cons m0 ms' => exact ⟨m0, ms', rfl⟩
    have Mm0 := im m0 List.mem_cons_self
    obtain ⟨u0, hu0, hm0⟩ := prd_at (j := 0) pm rfl
    -- closed
    refine sq_ (sets_ (rs_call (P := fun H' u => ∃ found ms, Lt H' u found ∧ FInv k ms found ∧ CInv ms 30 found ∧ found.length ≤ 100) (ea_cons (ev_v rfl) ea_nil) fun Q q => ⟨.ref ml, k, _, rfl, ⟨ml, mvs, rfl, hmv, pm⟩, im, by simp, by simp at lm ⊢; omega, by omega, fun u found H' s h1 h2 h3 h4 => q u H' s ⟨found, _, h1, h2, h3, h4⟩⟩) fun fv H5 s5 h5 => ?_)
    obtain ⟨found, ms1, hf, FI, CI, f100⟩ := h5
    have tMap : ∀ {H6}, Same H' H6 → H6 ml = some (.lst mvs) := fun s => s _ _ hmv
    refine sq_ (ifset_ (i := 5) (v0 := fv) (P := fun H' u => ∃ found ms, Lt H' u found ∧ FInv k ms found ∧ CInv ms 30 found ∧ found.length ≤ 100) (et_t (ev_gtN (ev_lenLt (ev_v rfl) hf) (ev_v (v := .int (4 : Nat)) rfl))) rfl (fun _ => ⟨found, ms1, hf, FI, CI, f100⟩) (fun _ => rs_call1s (P := fun H' u => ∃ a, u = .ref a ∧ H' a = some (.lst (mvs.take 1))) (Rs.imp (rs_slTo (k := 1) (ev_v rfl) (tMap s5) ev_c) fun H' v s ⟨a, e, _, h⟩ => ⟨a, e, h⟩) fun u H6 s6 ⟨a, e, ha⟩ Q q => ⟨u, k, [m0], rfl, ⟨a, mvs.take 1, e, ha, ?_⟩, fun m hm => by rw [List.mem_singleton.mp hm]; exact Mm0, by simp, by simp, by omega, fun u found H7 s7 h1 h2 h3 h4 => q u H7 s7 ⟨found, _, h1, h2, h3, h4⟩⟩) fun fv6 H6 s6 h6 => ?_)
    · have p6 := tns_fx pm (fx_of (s5.trans s6))
      cases p6 with
      | cons r t => exact prd_one r
    obtain ⟨found6, ms6, hf6, FI6, CI6, f6⟩ := h6
    refine sq_ (ifset_ (i := 5) (v0 := fv6) (P := fun H' u => ∃ found, Lt H' u found ∧ FOk k found ∧ found.length ≤ 4) (et_t (ev_gtN (ev_lenLt (ev_v rfl) hf6) (ev_v (v := .int (4 : Nat)) rfl))) rfl (fun hb => ?_) (fun _ => ?_) fun fv7 H7 s7 h7 => ?_)
    · have hle : found6.length ≤ 4 := by
        have := of_decide_eq_false hb
        omega
      exact ⟨found6, hf6, fok_of FI6 (cinv_end CI6 hle), hle⟩
    · have h00 : 0 < m0.length := by rw [Mm0.len]; exact hk1
      refine Rs.imp (rs_lst1 (P := fun H' u => Tn H' u (List.replicate k (at' m0 0))) (rs_tupN (Rs.imp (lcN_range (fun _ => true) (fun _ => at' m0 0) (n := k) (ev_v rfl) (by omega) (fun _ _ _ _ Q q => q) fun j H8 hj _ s8 => ev_ixT (ev_ixLv (j := 0) (ev_v rfl) (tMap ((s5.trans s6).trans s8)) ev_c hu0) (hm0.same ((s5.trans s6).trans s8)) (ev_c (v := .int (0 : Nat))) h00) fun H8 v s8 h => ?_)) fun _ _ _ f h => h.fx f) fun H8 v s8 ⟨p, u, e, _, h, h2⟩ => ⟨[List.replicate k (at' m0 0)], ⟨p, [u], e, h, prd_one h2⟩, const_ok hk1 (Mm0.lt _ (at_mem h00)), by simp⟩
      rw [filter_true, List.map_const', List.length_range] at h
      exact h
    · obtain ⟨found, hf, FO, hle⟩ := h7
      have dd := d4.same ((s5.trans s6).trans s7)
      refine rets_ (lcT_list (fun fr => found.map fun g => found.idxOf (after fr g)) (ev_v rfl) hf (by omega) fun r v H8 hr s8 hv => rs_tupN (lcN_rows (fun g => found.idxOf (after r g)) (ev_v rfl) (hf.same s8) (by omega) fun g u H9 hg s9 hu => ?_)) fun u H8 s8 h8 => q u (mapsT found) H8 (dd.same s8) h8 (maps_ok FO hle)
      intro Q q
      refine ev_v (v := fv7) rfl _ ⟨?_, rs_call (P := fun H' u => Tn H' u (after r g)) (ea_cons (ev_v rfl) (ea_cons (ev_v rfl) ea_nil)) (fun Q q => ⟨v, u, k, r, g, rfl, hv.same s9, hu, FO.maps r hr, FO.maps g hg, by omega, fun u H' s h => q u H' s h⟩) _ fun x H10 s10 hx => ?_⟩
      · obtain ⟨a, us, e, h, _⟩ := hf.same (s8.trans s9)
        exact ⟨a, us, e, h⟩
      · exact ⟨x, after r g, found, rfl, hx, hf.same ((s8.trans s9).trans s10), FO.closed r hr g hg, q _ _ s10 rfl⟩
end
end W7
end
section
set_option Elab.async false
set_option linter.all false
set_option maxRecDepth 100000
set_option maxHeartbeats 1000000
namespace W7
open PySem PySem.Spec PyProof.Rows L2 RZ K37 K37E M7
theorem tup_app_ {nx bk ct : L2.St → Hp → Prop} {rt : VK} {σ : L2.St} {H : Hp} {to te : TE} {rl : Addr} {us : List V} {t : List (List Nat)} {r : List Nat} (ho : Ev to σ H (.ref rl)) (h : H rl = some (.lst us)) (p : Paired (Tn H) us t) (he : Rs te σ H fun H' v => Tn H' v r) (hs : us.length < sizeLine)
    (k : ∀ us' H', (∀ H0, Same H0 H → H0 rl = none → Same H0 H') → Fx H H' → H' rl = some (.lst us') → Paired (Tn H') us' (t ++ [r]) → (∀ b o, b ≠ rl → H b = some o → H' b = some o) → nx σ H') : tDrop (tM isL rApp7 to (tCons te tNil)) ⟨nx, rt, bk, ct⟩ σ H :=
  app_ ho h he hs fun v H' s hv => by
    have fx := (fx_of s).trans (fx_put (o := HO.lst (us ++ [v])) (s _ _ h))
    exact k (us ++ [v]) _ (fun H0 s0 hn => same_put (s0.trans s) hn) fx upd_same (prd_app (tns_fx p fx) (prd_one (hv.fx (fx_put (s _ _ h))))) fun b o n e => by rw [upd_ne n]; exact s b o e
section
variable {P : Program} {w : World} {K : PySem.W.Frag} {mg : Str → Option Value} {base : Heap} {C : Addr}
theorem sc_l_monogenic : FnScope ["_law_state_here", "_law_most", "_law_n", "_law_period", "_law_index", "_law_rows", "_law_x", "_law_row", "_law_y", "_law_k"] ["_law_state_here", "_law_most"] (defScope s_law_monogenic) := ⟨rfl, rfl, rfl, by decide +kernel, rfl, by decide +kernel, by decide +kernel⟩
theorem h_l_monogenic (D : Dfn K mg "_law_monogenic" s_law_monogenic) (T : Bl mg) (H_l_take : Has P w K mg base "_law_take" ["_law_state_here", "_law_m"] 1 spTake) : Has P w K mg base "_law_monogenic" ["_law_state_here", "_law_most"] 2 (spTab) := by
  refine D.has sc_l_monogenic (fun _ _ _ _ _ _ us hl => match us, hl with | [_, _], _ => rfl) (fun vs H Q E h => by obtain ⟨l, rfl, _⟩ := h; rfl) (fun f cdv A outer s H vs Q E hr h => ⟨_, (pss_cons (ps_set (i := 2) sc_l_monogenic.nd rfl (Or.inl rfl) (pe_op op_add pe_int (pe_has H_l_take (hr.mono (by decide)) (pa_cons (pv 0) (pa_cons (pv 1) pa_nil)))))
      (pss_cons (ps_set (i := 3) sc_l_monogenic.nd rfl (Or.inl rfl) (pe_op op_add pe_int (pe_has H_l_take (hr.mono (by decide)) (pa_cons (pv 0) (pa_cons (pv 2) pa_nil)))))
      (pss_cons (ps_set (i := 4) sc_l_monogenic.nd rfl (Or.inl rfl) (pe_op op_sub (pe_op op_add (pv 2) pe_int) (pv 3)))
      (pss_cons (ps_set (i := 5) sc_l_monogenic.nd rfl (Or.inl rfl) (pe_lst pa_nil))
      (pss_cons (ps_for PassesOwn.never (by rfl) (pi_range1 (by rfl) T.range (pa_cons (pv 2) pa_nil)) (pg_name (i := 6) sc_l_monogenic.nd rfl (Or.inl rfl)) (pss_cons (ps_set (i := 7) sc_l_monogenic.nd rfl (Or.inl rfl) (pe_lst pa_nil))
      (pss_cons (ps_for PassesOwn.never (by rfl) (pi_range1 (by rfl) T.range (pa_cons (pv 2) pa_nil)) (pg_name (i := 8) sc_l_monogenic.nd rfl (Or.inl rfl)) (pss_cons (ps_set (i := 9) sc_l_monogenic.nd rfl (Or.inl rfl) (pe_op op_add (pe_op op_add (pv 6) (pv 8)) pe_int))
      (pss_cons (ps_if (pt_cmpR op_gt (pv 9) (pv 2) (nomark _)) (pss_one (ps_set (i := 9) sc_l_monogenic.nd rfl (Or.inl rfl) (pe_op op_add (pv 4) (pe_op op_modN (pe_callTy call_int1 (by rfl) T.int (by decide +kernel) (pa_cons (pe_op op_sub (pv 9) (pv 4)) pa_nil)) (pv 3))))) pss_nil)
      (pss_one (ps_expr (pe_l7 PySem.F.slot_list_append PySem.F.type_list_append app7 (pv 7) (pa_cons (pe_op op_sub (pv 9) pe_int) pa_nil)))))))
      (pss_one (ps_expr (pe_l7 PySem.F.slot_list_append PySem.F.type_list_append app7 (pv 5) (pa_cons (pe_callTy tup7 (by rfl) T.tuple (by decide +kernel) (pa_cons (pv 7) pa_nil)) pa_nil)))))))
      (pss_one (ps_ret (pv 5)))))))), ?_⟩)
  obtain ⟨l, rfl, st, q⟩ := h
  have big : 1000000 < sizeLine := by decide
  refine sq_ (setd_ (rd_plus (c := 1) (m := 4) ev_c (rd_take (m := 4) (ev_v rfl) (ev_v rfl) (by omega) (by omega) st)) fun v1 H1 d1 ⟨n0, hn0, e1⟩ => ?_)
  subst e1
  obtain ⟨n, en⟩ : ∃ n, n = 1 + n0 := ⟨_, rfl⟩
  rw [← en]
  refine sq_ (setd_ (rd_plus (c := 1) (m := n) ev_c (rd_take (m := n) (ev_v rfl) (ev_v rfl) (by omega) (by omega) d1.st)) fun v2 H2 d2 ⟨p0, hp0, e2⟩ => ?_)
  subst e2
  obtain ⟨p, ep⟩ : ∃ p, p = 1 + p0 := ⟨_, rfl⟩
  rw [← ep]
  refine sq_ (set_ (ev_subN (ev_addN (ev_v rfl) (ev_c (v := .int (1 : Nat)))) (ev_v rfl) (by omega)) (sq_ (sets_ rs_lst0 fun v3 H3 s3 ⟨rl, e3, hrl0, hrl⟩ => ?_)))
  subst e3
  have dd := (d1.trans d2).same s3
  refine sq_ (forR_ (n := n) (ev_v rfl) (sl1000 (by omega)) (fun x σ H' => Same H2 H' ∧ ∃ us a b c d, σ = [some (.ref l), some (.int 4), some (.int (n : Nat)), some (.int (p : Nat)), some (.int ((n + 1 - p : Nat) : Int)), some (.ref rl), a, b, c, d] ∧ H' rl = some (.lst us) ∧ Paired (Tn H') us ((List.range x).map fun x => (List.range n).map fun y => monoF n p x y)) ⟨s3, [], none, none, none, none, rfl, hrl, .nil⟩ (fun x σ H' hx h => ?_) fun σ H' h => ?_)
  · obtain ⟨s4, us, a, b, c, d, rfl, hus, pus⟩ := h
    refine sq_ (sets_ rs_lst0 fun v5 H5 s5 ⟨wl, e5, hwl0, hwl⟩ => ?_)
    subst e5
    have nwr : wl ≠ rl := fun z => by rw [z, hus] at hwl0; cases hwl0
    refine sq_ (forR_ (n := n) (ev_v rfl) (sl1000 (by omega)) (fun y σ H6 => Same H' H6 ∧ ∃ c d, σ = [some (.ref l), some (.int 4), some (.int (n : Nat)), some (.int (p : Nat)), some (.int ((n + 1 - p : Nat) : Int)), some (.ref rl), some (.int (x : Nat)), some (.ref wl), c, d] ∧ H6 wl = some (.lst (nv ((List.range y).map fun y => monoF n p x y)))) ⟨s5, c, d, rfl, hwl⟩ (fun y σ H6 hy h => ?_) fun σ H6 h => ?_)
    · obtain ⟨s6, c, d, rfl, hw6⟩ := h
      refine sq_ (set_ (ev_addN (ev_addN (ev_v (v := .int (x : Nat)) rfl) (ev_v (v := .int (y : Nat)) rfl)) (ev_c (v := .int (2 : Nat)))) (sq_ ?_))
      have fin : ∀ k, k = (if x + y + 2 > n then (n + 1 - p) + (x + y + 2 - (n + 1 - p)) % p else x + y + 2) → 1 ≤ k → tDrop (tM isL rApp7 (tVar 7) (tCons (tOp (rI0 fun i j => .int (i - j)) (tVar 9) (tC (.int 1))) tNil)) ⟨fun σ H6 => Same H' H6 ∧ ∃ c d, σ = [some (.ref l), some (.int 4), some (.int (n : Nat)), some (.int (p : Nat)), some (.int ((n + 1 - p : Nat) : Int)), some (.ref rl), some (.int (x : Nat)), some (.ref wl), c, d] ∧ H6 wl = some (.lst (nv ((List.range (y + 1)).map fun y => monoF n p x y))), Q, fun _ _ => True, fun _ _ => True⟩ [some (.ref l), some (.int 4), some (.int (n : Nat)), some (.int (p : Nat)), some (.int ((n + 1 - p : Nat) : Int)), some (.ref rl), some (.int (x : Nat)), some (.ref wl), some (.int (y : Nat)), some (.int (k : Nat))] H6 := fun k hk h1 => by
        refine app_ (l := wl) (ev_v rfl) hw6 (P := fun _ v => v = .int ((k - 1 : Nat) : Int)) ((ev_subN (ev_v rfl) (ev_c (v := .int (1 : Nat))) h1).rs rfl) (by rw [nv_len, List.length_map, List.length_range]; omega) fun v7 H7 s7 e7 => ?_
        subst e7
        refine ⟨same_put (s6.trans s7) hwl0, _, _, rfl, ?_⟩
        rw [upd_same, List.range_succ, List.map_append, nv_append]
        have e : k - 1 = monoF n p x y := by rw [hk]; rfl
        rw [e]
        rfl
      refine ifn_ (et_t (ev_gtN (ev_v rfl) (ev_v rfl))) (fun hb => ?_) fun hb => ?_
      · have hgt := of_decide_eq_true hb
        have hge : n + 1 - p ≤ x + y + 2 := by omega
        refine set_ (ev_addN (ev_v rfl) (ev_modN (ev_int1 (ev_subN (ev_v rfl) (ev_v rfl) hge)) (ev_v rfl) (by omega))) ?_
        exact fin _ (by rw [if_pos hgt]) (by omega)
      · have hle := of_decide_eq_false hb
        exact fin (x + y + 2) (by rw [if_neg (by omega)]) (by omega)
    · obtain ⟨s6, c, d, rfl, hw6⟩ := h
      have hus6 := s6 _ _ hus
      refine tup_app_ (r := (List.range n).map fun y => monoF n p x y) (ev_v rfl) hus6 (tns_fx pus (fx_of s6)) (rs_tupN ((ev_v rfl).rs ⟨wl, rfl, hw6⟩)) (by rw [prd_len pus, List.length_map, List.length_range]; omega) fun us' H7 k7 f7 h7 p7 _ => ⟨k7 _ (s4.trans s6) hrl0, us', _, _, _, _, rfl, h7, ?_⟩
      rw [List.range_succ, List.map_append]
      exact p7
  · obtain ⟨s4, us, a, b, c, d, rfl, hus, pus⟩ := h
    exact ret_ (ev_v rfl) (q _ (tab n (monoF n p)) H' ((d1.trans d2).same s4) ⟨rl, us, rfl, hus, pus⟩ (mono_ok (by omega) (by omega) (by omega) (by omega)))
end
end W7
end
section
set_option Elab.async false
set_option linter.all false
set_option maxRecDepth 100000
set_option maxHeartbeats 1000000
namespace W7
open PySem PySem.Spec PyProof.Rows L2 RZ K37 K37E M7
def LLn (H : Hp) (v : V) (t : List (List Nat)) : Prop := ∃ D vs, v = .ref D ∧ H D = some (.lst vs) ∧ Paired (fun v r => ∃ a, v = .ref a ∧ H a = some (.lst (nv r))) vs t
def LLb (H : Hp) (v : V) (t : List (List Bool)) : Prop := ∃ D vs, v = .ref D ∧ H D = some (.lst vs) ∧ Paired (fun v r => ∃ a, v = .ref a ∧ H a = some (.lst (r.map V.bl))) vs t
theorem LLn.same {H H' : Hp} {v : V} {t : List (List Nat)} (h : LLn H v t) (s : Same H H') : LLn H' v t := let ⟨D, vs, e, q, p⟩ := h; ⟨D, vs, e, s _ _ q, prd_imp p fun _ _ ⟨a, e, h⟩ => ⟨a, e, s _ _ h⟩⟩
theorem LLb.same {H H' : Hp} {v : V} {t : List (List Bool)} (h : LLb H v t) (s : Same H H') : LLb H' v t := let ⟨D, vs, e, q, p⟩ := h; ⟨D, vs, e, s _ _ q, prd_imp p fun _ _ ⟨a, e, h⟩ => ⟨a, e, s _ _ h⟩⟩
section
variable {σ : L2.St} {H : Hp} {ta tb tc te : TE} {v : V}
theorem ev_lln {t : List (List Nat)} {i j : Nat} (ha : Ev ta σ H v) (h : LLn H v t) (hb : Ev tb σ H (.int (i : Nat))) (hc : Ev tc σ H (.int (j : Nat))) (hi : i < t.length) (hj : j < (t.getD i []).length) : Ev (tOp ixL (tOp ixL ta tb) tc) σ H (.int (cellN t i j : Nat)) := by
  obtain ⟨D, vs, rfl, hD, p⟩ := h
  obtain ⟨u, hu, a, rfl, hx⟩ := prd_at p (getD_at (d := []) hi)
  exact ev_ixL (ev_ixLv ha hD hb hu) ⟨a, rfl, hx⟩ hc hj
theorem ev_llb {t : List (List Bool)} {i j : Nat} (ha : Ev ta σ H v) (h : LLb H v t) (hb : Ev tb σ H (.int (i : Nat))) (hc : Ev tc σ H (.int (j : Nat))) (hi : i < t.length) (hj : j < (t.getD i []).length) : Ev (tOp ixL (tOp ixL ta tb) tc) σ H (.bl (cellB t i j)) := by
  obtain ⟨D, vs, rfl, hD, p⟩ := h
  obtain ⟨u, hu, a, rfl, hx⟩ := prd_at p (getD_at (d := []) hi)
  refine ev_ixLv (ev_ixLv ha hD hb hu) hx hc ?_
  rw [List.getElem?_map, getD_at (d := false) hj]
  rfl
theorem ev_intB {z : Bool} (h : Ev te σ H (.bl z)) : Ev (tCB (fun xs H Q => (∃ i, xs = [.int i] ∧ Q (.int i) H) ∨ ∃ k, xs = [.bl k] ∧ Q (.int (if k then 1 else 0)) H) (tCons te tNil)) σ H (.int (b2n z : Nat)) := fun Q q => h _ (.inr ⟨z, rfl, by
  cases z
  · exact q
  · exact q⟩)
theorem rs_catL {ns ms : List Nat} (ha : Ev ta σ H v) (h : Ln H v ns) (hb : Rs tb σ H fun H' u => Ln H' u ms) (hl : ns.length + ms.length ≤ 1000) : Rs (tOp rCat ta tb) σ H fun H' u => Ln H' u (ns ++ ms) := fun Q q => ha _ (hb _ fun u H1 s1 h1 => by
  obtain ⟨a, rfl, h2⟩ := h.same s1
  obtain ⟨b, rfl, h3⟩ := h1
  exact ⟨a, b, nv ns, nv ms, rfl, rfl, h2, h3, by rw [nv_len, nv_len]; exact sl1000 hl, fun p hp => q _ _ (s1.trans (same_new hp)) ⟨p, rfl, by rw [upd_same, nv_append]⟩⟩)
end
theorem tri_row {a b g : Nat} {tw : List (List Nat)} {ho : List (List Bool)} {z : Bool} {x : Nat} (hx : x < a * b * g) : (List.range (a * b * g + b2n z)).map (fun y => triF a b g tw ho z x y) = (List.range (a * b * g)).map (fun y => triF a b g tw ho z x y) ++ List.replicate (b2n z) (a * b * g) := by
  cases z with
  | false => simp [b2n]
  | true =>
    show (List.range (a * b * g + 1)).map _ = _ ++ [a * b * g]
    rw [List.range_succ, List.map_append]
    congr 1
    show [triF a b g tw ho true x (a * b * g)] = _
    unfold triF
    rw [if_neg (fun h => Nat.lt_irrefl _ h.2)]
theorem tri_tab {a b g : Nat} {tw : List (List Nat)} {ho : List (List Bool)} {z : Bool} : triT a b g tw ho z = (List.range (a * b * g)).map (fun x => (List.range (a * b * g)).map (fun y => triF a b g tw ho z x y) ++ List.replicate (b2n z) (a * b * g)) ++ if z = true then [List.replicate (a * b * g + 1) (a * b * g)] else [] := by
  have h1 : (List.range (a * b * g)).map (fun x => (List.range (a * b * g)).map (fun y => triF a b g tw ho z x y) ++ List.replicate (b2n z) (a * b * g)) = (List.range (a * b * g)).map (fun x => (List.range (a * b * g + b2n z)).map (fun y => triF a b g tw ho z x y)) := List.map_congr_left fun x hx => (tri_row (List.mem_range.mp hx)).symm
  rw [h1]
  unfold triT tab
  cases z with
  | false => simp [b2n]
  | true =>
    show (List.range (a * b * g + 1)).map _ = _
    rw [List.range_succ, List.map_append, if_pos rfl]
    congr 1
    show [(List.range (a * b * g + 1)).map fun y => triF a b g tw ho true (a * b * g) y] = _
    congr 1
    have e : (List.range (a * b * g + 1)).map (fun y => triF a b g tw ho true (a * b * g) y) = (List.range (a * b * g + 1)).map fun _ => a * b * g := List.map_congr_left fun y _ => by
      unfold triF
      rw [if_neg (fun h => Nat.lt_irrefl _ h.1)]
    rw [e, List.map_const', List.length_range]
section
variable {P : Program} {w : World} {K : PySem.W.Frag} {mg : Str → Option Value} {base : Heap} {C : Addr}
def spTri : Sp := fun vs H Q _ => ∃ (a b g : Nat) (tv hv : V) (tw : List (List Nat)) (ho : List (List Bool)) (z : Bool), vs = [.int (a : Int), .int (b : Int), .int (g : Int), tv, hv, .bl z] ∧ 0 < a ∧ 0 < b ∧ 0 < g ∧ a < 3 ∧ b < 3 ∧ g < 3 ∧ LLn H tv tw ∧ LLb H hv ho ∧ Shape (fun v => v < g) b a tw ∧ Shape (fun _ => True) b a ho ∧ ∀ u H', Same H H' → Lt H' u (triT a b g tw ho z) → Q u H'
theorem sc_l_triples : FnScope ["_law_a", "_law_b", "_law_g", "_law_twist", "_law_holes", "_law_zero", "_law_size", "_law_rows", "_law_x", "_law_row", "_law_y", "_law_j", "_law_i", "_law_turn", "_law_k"] ["_law_a", "_law_b", "_law_g", "_law_twist", "_law_holes", "_law_zero"] (defScope s_law_triples) := ⟨rfl, rfl, rfl, by decide +kernel, rfl, by decide +kernel, by decide +kernel⟩
theorem h_l_triples (D : Dfn K mg "_law_triples" s_law_triples) (T : Bl mg)  : Has P w K mg base "_law_triples" ["_law_a", "_law_b", "_law_g", "_law_twist", "_law_holes", "_law_zero"] 1 (spTri) := by
  refine D.has sc_l_triples (fun _ _ _ _ _ _ us hl => match us, hl with | [_, _, _, _, _, _], _ => rfl) (fun vs H Q E h => by obtain ⟨a, b, g, tv, hv, tw, ho, z, rfl, _⟩ := h; rfl) (fun f cdv A outer s H vs Q E hr h => ⟨_, (pss_cons (ps_set (i := 6) sc_l_triples.nd rfl (Or.inr rfl) (pe_op op_mul (pe_op op_mul (pv 0) (pv 1)) (pv 2)))
      (pss_cons (ps_set (i := 7) sc_l_triples.nd rfl (Or.inl rfl) (pe_lst pa_nil))
      (pss_cons (ps_for PassesOwn.never (by rfl) (pi_range1 (by rfl) T.range (pa_cons (pv 6) pa_nil)) (pg_name (i := 8) sc_l_triples.nd rfl (Or.inl rfl)) (pss_cons (ps_set (i := 9) sc_l_triples.nd rfl (Or.inl rfl) (pe_lst pa_nil))
      (pss_cons (ps_for PassesOwn.never (by rfl) (pi_range1 (by rfl) T.range (pa_cons (pv 6) pa_nil)) (pg_name (i := 10) sc_l_triples.nd rfl (Or.inl rfl)) (pss_cons (ps_set (i := 11) sc_l_triples.nd rfl (Or.inl rfl) (pe_op op_modN (pe_callTy call_int1 (by rfl) T.int (by decide +kernel) (pa_cons (pv 8) pa_nil)) (pv 1)))
      (pss_cons (ps_set (i := 12) sc_l_triples.nd rfl (Or.inl rfl) (pe_op op_fdivN (pv 10) (pe_op op_mul (pv 2) (pv 1))))
      (pss_one (ps_if (PW.pt (pw_and (pt_val (pv 5)) (pw_and1 (pt_val (pe_ix ix7L (pe_ix ix7L (pv 4) (pv 11) (fun _ _ => rfl)) (pv 12) (fun _ _ => rfl)))))) (pss_one (ps_expr (pe_l7 PySem.F.slot_list_append PySem.F.type_list_append app7 (pv 9) (pa_cons (pv 6) pa_nil)))) (pss_cons (ps_set (i := 13) sc_l_triples.nd rfl (Or.inl rfl) (pe_op op_modN (pe_callTy call_int1 (by rfl) T.int (by decide +kernel) (pa_cons (pe_op op_add (pe_op op_add (pe_op op_fdivN (pv 8) (pv 1)) (pe_ix ix7L (pe_ix ix7L (pv 3) (pv 11) (fun _ _ => rfl)) (pv 12) (fun _ _ => rfl))) (pe_op op_fdivN (pv 10) (pv 1))) pa_nil)) (pv 2)))
      (pss_one (ps_expr (pe_l7 PySem.F.slot_list_append PySem.F.type_list_append app7 (pv 9) (pa_cons (pe_op op_add (pe_op op_mul (pe_op op_add (pe_op op_mul (pe_op op_fdivN (pv 8) (pe_op op_mul (pv 2) (pv 1))) (pv 2)) (pv 13)) (pv 1)) (pe_op op_modN (pe_callTy call_int1 (by rfl) T.int (by decide +kernel) (pa_cons (pv 10) pa_nil)) (pv 1))) pa_nil))))))))))
      (pss_one (ps_expr (pe_l7 PySem.F.slot_list_append PySem.F.type_list_append app7 (pv 7) (pa_cons (pe_callTy tup7 (by rfl) T.tuple (by decide +kernel) (pa_cons (pe_op op_cat (pv 9) (pe_lc (own := [("_law_k", 14)]) (g := gName 14) (by rfl) sc_l_triples.nd (pi_range1 (by rfl) T.range (pa_cons (pe_callTy call_int1 (by rfl) T.int (by decide +kernel) (pa_cons (pv 5) pa_nil)) pa_nil)) (blkOk_by (by kernel_rfl)) (fun _ _ _ _ _ => pg_name (i := 14) sc_l_triples.nd rfl (Or.inl rfl)) (fun _ _ _ _ _ => pts_nil) (fun _ _ _ _ _ => (pv 6)))) pa_nil)) pa_nil)))))))
      (pss_cons (ps_if (pt_val (pv 5)) (pss_one (ps_expr (pe_l7 PySem.F.slot_list_append PySem.F.type_list_append app7 (pv 7) (pa_cons (pe_callTy tup7 (by rfl) T.tuple (by decide +kernel) (pa_cons (pe_lc (own := [("_law_k", 14)]) (g := gName 14) (by rfl) sc_l_triples.nd (pi_range1 (by rfl) T.range (pa_cons (pe_op op_add (pv 6) pe_int) pa_nil)) (blkOk_by (by kernel_rfl)) (fun _ _ _ _ _ => pg_name (i := 14) sc_l_triples.nd rfl (Or.inl rfl)) (fun _ _ _ _ _ => pts_nil) (fun _ _ _ _ _ => (pv 6))) pa_nil)) pa_nil)))) pss_nil)
      (pss_one (ps_ret (pv 7))))))), ?_⟩)
  obtain ⟨a, b, g, tv, hv, tw, ho, z, rfl, ha, hb, hg, a3, b3, g3, htw, hho, St, Sh, q⟩ := h
  have big : 1000000 < sizeLine := by decide
  obtain ⟨n, en⟩ : ∃ n, n = a * b * g := ⟨_, rfl⟩
  have hn8 : n ≤ 8 := by
    have h1 : a * b ≤ 2 * 2 := Nat.mul_le_mul (by omega) (by omega)
    have h2 : a * b * g ≤ 2 * 2 * 2 := Nat.mul_le_mul h1 (by omega)
    omega
  have hab : a * b ≤ 4 := by
    have : a * b ≤ 2 * 2 := Nat.mul_le_mul (by omega) (by omega)
    omega
  have hgb : g * b ≤ 4 := by
    have : g * b ≤ 2 * 2 := Nat.mul_le_mul (by omega) (by omega)
    omega
  have hgb0 : 0 < g * b := Nat.mul_pos hg hb
  refine sq_ (set_ (ev_mulN (ev_mulN (ev_v rfl) (ev_v rfl) (by omega)) (ev_v rfl) (by omega)) (sq_ (sets_ rs_lst0 fun v1 H1 s1 ⟨rl, e1, hrl0, hrl⟩ => ?_)))
  subst e1
  rw [← en]
  refine sq_ (forR_ (n := n) (ev_v rfl) (sl1000 (by omega)) (fun x σ H' => Same H H' ∧ ∃ us c0 c1 c2 c3 c4 c5 c6, σ = [some (.int (a : Nat)), some (.int (b : Nat)), some (.int (g : Nat)), some tv, some hv, some (.bl z), some (.int (n : Nat)), some (.ref rl), c0, c1, c2, c3, c4, c5, c6] ∧ H' rl = some (.lst us) ∧ Paired (Tn H') us ((List.range x).map fun x => (List.range n).map (fun y => triF a b g tw ho z x y) ++ List.replicate (b2n z) n)) ⟨s1, [], none, none, none, none, none, none, none, rfl, hrl, .nil⟩ (fun x σ H' hx h => ?_) fun σ H' h => ?_)
  · obtain ⟨s2, us, c0, c1, c2, c3, c4, c5, c6, rfl, hus, pus⟩ := h
    refine sq_ (sets_ rs_lst0 fun v3 H3 s3 ⟨wl, e3, hwl0, hwl⟩ => ?_)
    subst e3
    refine sq_ (forR_ (n := n) (ev_v rfl) (sl1000 (by omega)) (fun y σ H4 => Same H' H4 ∧ ∃ c2 c3 c4 c5 c6, σ = [some (.int (a : Nat)), some (.int (b : Nat)), some (.int (g : Nat)), some tv, some hv, some (.bl z), some (.int (n : Nat)), some (.ref rl), some (.int (x : Nat)), some (.ref wl), c2, c3, c4, c5, c6] ∧ H4 wl = some (.lst (nv ((List.range y).map fun y => triF a b g tw ho z x y)))) ⟨s3, c2, c3, c4, c5, c6, rfl, hwl⟩ (fun y σ H4 hy h => ?_) fun σ H4 h => ?_)
    · obtain ⟨s4, c2, c3, c4, c5, c6, rfl, hw4⟩ := h
      have htw4 := htw.same (s2.trans s4)
      have hho4 := hho.same (s2.trans s4)
      have hj : x % b < b := Nat.mod_lt _ hb
      have hi : y / (g * b) < a := by
        rw [Nat.div_lt_iff_lt_mul hgb0]
        have e : a * (g * b) = a * b * g := by rw [Nat.mul_comm g b, Nat.mul_assoc]
        rw [e, ← en]
        exact hy
      have htl : x % b < tw.length := by rw [St.len]; exact hj
      have hhl : x % b < ho.length := by rw [Sh.len]; exact hj
      have htr := (St.row _ (List.mem_of_getElem? (getD_at (d := []) htl))).1
      have hhr := (Sh.row _ (List.mem_of_getElem? (getD_at (d := []) hhl))).1
      refine sq_ (set_ (ev_modN (ev_int1 (ev_v rfl)) (ev_v rfl) hb) (sq_ (set_ (ev_divN (ev_v (v := .int (y : Nat)) rfl) (ev_mulN (ev_v (v := .int (g : Nat)) rfl) (ev_v (v := .int (b : Nat)) rfl) (by omega)) hgb0 (by omega)) ?_)))
      refine if_ (et_and (et_b (ev_v rfl)) fun _ => et_b (ev_llb (ev_v rfl) hho4 (ev_v rfl) (ev_v rfl) hhl (by rw [hhr]; exact hi))) (fun hc => ?_) fun hc => ?_
      · refine app_ (l := wl) (ev_v rfl) hw4 (P := fun _ v => v = .int (n : Nat)) ((ev_v rfl).rs rfl) (by rw [nv_len, List.length_map, List.length_range]; omega) fun v5 H5 s5 e5 => ?_
        subst e5
        refine ⟨same_put (s4.trans s5) hwl0, _, _, _, _, _, rfl, ?_⟩
        have e : triF a b g tw ho z x y = n := by
          unfold triF
          rw [if_pos ⟨by omega, by omega⟩, if_pos hc, en]
        rw [upd_same, List.range_succ, List.map_append, nv_append, List.map_singleton, e]
        rfl
      · refine sq_ (set_ (ev_modN (ev_int1 (ev_addN (ev_addN (ev_divN (ev_v (v := .int (x : Nat)) rfl) (ev_v (v := .int (b : Nat)) rfl) hb (by omega)) (ev_lln (ev_v rfl) htw4 (ev_v rfl) (ev_v rfl) htl (by rw [htr]; exact hi))) (ev_divN (ev_v (v := .int (y : Nat)) rfl) (ev_v (v := .int (b : Nat)) rfl) hb (by omega)))) (ev_v rfl) hg) ?_)
        generalize htu : (x / b + cellN tw (x % b) (y / (g * b)) + y / b) % g = tu
        have htu2 : tu < g := by rw [← htu]; exact Nat.mod_lt _ hg
        have hxd : x / (g * b) ≤ 8 := Nat.le_trans (Nat.div_le_self _ _) (by omega)
        have hxg : x / (g * b) * g ≤ 8 * 2 := Nat.mul_le_mul hxd (by omega)
        refine app_ (l := wl) (ev_v rfl) hw4 (P := fun _ v => v = .int ((x / (g * b) * g + tu) * b + y % b : Nat)) ((ev_addN (ev_mulN (ev_addN (ev_mulN (ev_divN (ev_v (v := .int (x : Nat)) rfl) (ev_mulN (ev_v (v := .int (g : Nat)) rfl) (ev_v (v := .int (b : Nat)) rfl) (by omega)) hgb0 (by omega)) (ev_v rfl) (by omega)) (ev_v rfl)) (ev_v rfl) (by omega)) (ev_modN (ev_int1 (ev_v rfl)) (ev_v rfl) hb)).rs rfl) (by rw [nv_len, List.length_map, List.length_range]; omega) fun v5 H5 s5 e5 => ?_
        subst e5
        refine ⟨same_put (s4.trans s5) hwl0, _, _, _, _, _, rfl, ?_⟩
        have e : triF a b g tw ho z x y = (x / (g * b) * g + tu) * b + y % b := by
          unfold triF
          rw [if_pos ⟨by omega, by omega⟩, if_neg (by rw [hc]; decide), htu]
        rw [upd_same, List.range_succ, List.map_append, nv_append, List.map_singleton, e]
        rfl
    · obtain ⟨s4, c2, c3, c4, c5, c6, rfl, hw4⟩ := h
      have hz1 : b2n z ≤ 1 := by cases z <;> decide
      refine tup_app_ (r := (List.range n).map (fun y => triF a b g tw ho z x y) ++ List.replicate (b2n z) n) (ev_v rfl) (s4 _ _ hus) (tns_fx pus (fx_of s4)) (rs_tupN (rs_catL (ev_v rfl) ⟨wl, rfl, hw4⟩ (Rs.imp (lcN_range (fun _ => true) (fun _ => n) (n := b2n z) (ev_intB (ev_v rfl)) (by omega) (fun _ _ _ _ Q q => q) fun j H5 hj _ s5 => ev_v rfl) fun H5 v s5 h => ?_) (by rw [List.length_map, List.length_range, List.length_replicate]; omega))) (by rw [prd_len pus, List.length_map, List.length_range]; omega) fun us' H7 k7 f7 h7 p7 _ => ⟨k7 _ (s2.trans s4) hrl0, us', _, _, _, _, _, _, _, rfl, h7, ?_⟩
      · rw [filter_true, List.map_const', List.length_range] at h
        exact h
      · rw [List.range_succ, List.map_append]
        exact p7
  · obtain ⟨s2, us, c0, c1, c2, c3, c4, c5, c6, rfl, hus, pus⟩ := h
    refine sq_ (ifn_ (et_b (ev_v rfl)) (fun hz => ?_) fun hz => ?_)
    · refine tup_app_ (r := List.replicate (n + 1) n) (ev_v rfl) hus pus (rs_tupN (Rs.imp (lcN_range (fun _ => true) (fun _ => n) (n := n + 1) (ev_addN (ev_v rfl) (ev_c (v := .int (1 : Nat)))) (by omega) (fun _ _ _ _ Q q => q) fun j H5 hj _ s5 => ev_v rfl) fun H5 v s5 h => ?_)) (by rw [prd_len pus, List.length_map, List.length_range]; omega) fun us' H7 k7 f7 h7 p7 _ => ret_ (ev_v rfl) (q _ H7 (k7 _ s2 hrl0) ⟨rl, us', rfl, h7, ?_⟩)
      · rw [filter_true, List.map_const', List.length_range] at h
        exact h
      · rw [tri_tab, if_pos hz, ← en]
        exact p7
    · refine ret_ (ev_v rfl) (q _ H' s2 ⟨rl, us, rfl, hus, ?_⟩)
      rw [tri_tab, if_neg (by rw [hz]; decide), List.append_nil, ← en]
      exact pus
end
end W7
end
section
set_option Elab.async false
set_option linter.all false
set_option maxRecDepth 100000
set_option maxHeartbeats 1000000
namespace W7
open PySem PySem.Spec PyProof.Rows L2 RZ K37 K37E M7
def LLx {α : Type} (f : α → V) (l : Addr) (H : Hp) (v : V) (t : List (List α)) : Prop := ∃ D vs, v = .ref D ∧ D ≠ l ∧ H D = some (.lst vs) ∧ Paired (fun v r => ∃ A, v = .ref A ∧ A ≠ l ∧ H A = some (.lst (r.map f))) vs t
theorem LLx.dr {α : Type} {f : α → V} {l : Addr} {H H' : Hp} {v : V} {t : List (List α)} (h : LLx f l H v t) (d : Dr l H H') : LLx f l H' v t := let ⟨D, vs, e, n, q, p⟩ := h; ⟨D, vs, e, n, d.but _ _ n q, prd_imp p fun _ _ ⟨A, e, n, h⟩ => ⟨A, e, n, d.but _ _ n h⟩⟩
theorem StO.ne {l D : Addr} {H : Hp} (st : StO H l) (h : H D = none) : D ≠ l := fun z => by
  obtain ⟨a, b, e⟩ := st
  rw [z, e] at h
  cases h
/-- a list of drawn lists -/
theorem lcDD {α : Type} {f : α → V} {p : α → Prop} {σ : L2.St} {H : Hp} {ta tb el : TE} {l : Addr} {i j a b : Nat} (st : StO H l) (hb : Ev tb σ H (.int (b : Nat))) (b1 : b ≤ 1000) (a1 : a ≤ 1000) (ha : ∀ (x : Nat) (H' : Hp), Dr l H H' → Ev ta (σ.set j (some (.int (x : Nat)))) H' (.int (a : Nat)))
    (he : ∀ (x y : Nat) (H' : Hp), Dr l H H' → Rd7 l el ((σ.set j (some (.int (x : Nat)))).set i (some (.int (y : Nat)))) H' fun _ v => ∃ z, p z ∧ v = f z) :
    Rd7 l (tLc (iRng1 (tCons tb tNil)) (gName j) tYes (tLc (iRng1 (tCons ta tNil)) (gName i) tYes el [i]) [j]) σ H fun H' v => ∃ t, Shape p b a t ∧ LLx f l H' v t := by
  refine Rd7.imp (lcD_range (fun D _ H' v => ∃ A r, v = .ref A ∧ A ≠ D ∧ A ≠ l ∧ H' A = some (.lst (List.map f r)) ∧ r.length = a ∧ ∀ z ∈ r, p z) st hb b1 (fun D _ H1 H2 v s ⟨A, r, e, n1, n2, h, h2⟩ => ⟨A, r, e, n1, n2, s _ _ n1 n2 h, h2⟩) fun D x H' vs hx nD eD dD => ?_) fun H' v d ⟨D, vs, e, hD, eD, pr⟩ => ?_
  · refine Rd7.imp (lcD_range (fun _ _ _ v => ∃ z, p z ∧ v = f z) dD.st (ha x H' dD) a1 (fun _ _ _ _ _ _ h => h) fun D2 y H2 vs2 hy nD2 eD2 d2 => he x y H2 (dD.trans d2)) fun H2 v d2 ⟨A, vs2, e, hA, eA, pr⟩ => ?_
    have hr : ∃ r : List α, vs2 = r.map f ∧ r.length = a ∧ ∀ z ∈ r, p z := by
      have : ∀ {vs : List V} {js : List Nat}, Paired (fun v (_ : Nat) => ∃ z, p z ∧ v = f z) vs js → ∃ r : List α, vs = r.map f ∧ r.length = js.length ∧ ∀ z ∈ r, p z := fun pp => by
        induction pp with
        | nil => exact ⟨[], rfl, rfl, (fun z hz => by cases hz)⟩
        | cons r _ ih =>
          obtain ⟨z, hz, rfl⟩ := r
          obtain ⟨r', e1, e2, e3⟩ := ih
          exact ⟨z :: r', by rw [e1]; rfl, by simp [e2], fun y hy => (List.mem_cons.mp hy).elim (fun h => by rw [h]; exact hz) (e3 y)⟩
      obtain ⟨r, e1, e2, e3⟩ := this pr
      exact ⟨r, e1, by rw [e2, List.length_range], e3⟩
    obtain ⟨r, e1, e2, e3⟩ := hr
    exact ⟨A, r, e, (fun z => by rw [z, eD] at hA; cases hA), dD.st.ne hA, by rw [eA, e1], e2, e3⟩
  · have : ∀ {vs : List V} {js : List Nat}, Paired (fun v (_ : Nat) => ∃ A r, v = .ref A ∧ A ≠ D ∧ A ≠ l ∧ H' A = some (.lst (List.map f r)) ∧ r.length = a ∧ ∀ z ∈ r, p z) vs js → ∃ t : List (List α), t.length = js.length ∧ (∀ r ∈ t, r.length = a ∧ ∀ z ∈ r, p z) ∧ Paired (fun v r => ∃ A, v = .ref A ∧ A ≠ l ∧ H' A = some (.lst (List.map f r))) vs t := fun pp => by
      induction pp with
      | nil => exact ⟨[], rfl, (fun r hr => by cases hr), .nil⟩
      | cons r _ ih =>
        obtain ⟨A, r, e1, _, e3, e4, e5⟩ := r
        obtain ⟨t, t1, t2, t3⟩ := ih
        exact ⟨r :: t, by simp [t1], fun q hq => (List.mem_cons.mp hq).elim (fun h => by rw [h]; exact e5) (t2 q), .cons ⟨A, e1, e3, e4⟩ t3⟩
    obtain ⟨t, t1, t2, t3⟩ := this pr
    exact ⟨t, ⟨by rw [t1, List.length_range], t2⟩, D, vs, e, st.ne hD, eD, t3⟩
theorem ifany_ {nx bk ct : L2.St → Hp → Prop} {rt : VK} {σ : L2.St} {H : Hp} {t : TS} {c : TT} {b : Bool} (I : L2.St → Hp → Prop) (h : Et c σ H b) (h1 : b = true → ∀ nx' : L2.St → Hp → Prop, (∀ σ H, I σ H → nx' σ H) → t ⟨nx', rt, bk, ct⟩ σ H) (h2 : b = false → I σ H) (k : ∀ σ H, I σ H → nx σ H) : tIfS c t tNext ⟨nx, rt, bk, ct⟩ σ H := ifn_ h (fun hb => h1 hb _ k) fun hb => k _ _ (h2 hb)
section
variable {P : Program} {w : World} {K : PySem.W.Frag} {mg : Str → Option Value} {base : Heap} {C : Addr}
theorem sc_l_blocks : FnScope ["_law_state_here", "_law_most", "_law_a", "_law_b", "_law_g", "_law_twist", "_law_holes", "_law_zero", "_law_j", "_law_i"] ["_law_state_here", "_law_most"] (defScope s_law_blocks) := ⟨rfl, rfl, rfl, by decide +kernel, rfl, by decide +kernel, by decide +kernel⟩
theorem h_l_blocks (D : Dfn K mg "_law_blocks" s_law_blocks) (T : Bl mg) (H_l_take : Has P w K mg base "_law_take" ["_law_state_here", "_law_m"] 1 spTake) (H_l_triples : Has P w K mg base "_law_triples" ["_law_a", "_law_b", "_law_g", "_law_twist", "_law_holes", "_law_zero"] 1 spTri) : Has P w K mg base "_law_blocks" ["_law_state_here", "_law_most"] 2 (spTab) := by
  refine D.has sc_l_blocks (fun _ _ _ _ _ _ us hl => match us, hl with | [_, _], _ => rfl) (fun vs H Q E h => by obtain ⟨l, rfl, _⟩ := h; rfl) (fun f cdv A outer s H vs Q E hr h => ⟨_, (pss_cons (ps_set (i := 2) sc_l_blocks.nd rfl (Or.inr rfl) (pe_op op_add pe_int (pe_has H_l_take (hr.mono (by decide)) (pa_cons (pv 0) (pa_cons pe_int pa_nil)))))
      (pss_cons (ps_set (i := 3) sc_l_blocks.nd rfl (Or.inl rfl) (pe_op op_add pe_int (pe_has H_l_take (hr.mono (by decide)) (pa_cons (pv 0) (pa_cons pe_int pa_nil)))))
      (pss_cons (ps_set (i := 4) sc_l_blocks.nd rfl (Or.inr rfl) (pe_op op_add pe_int (pe_has H_l_take (hr.mono (by decide)) (pa_cons (pv 0) (pa_cons pe_int pa_nil)))))
      (pss_cons (ps_if (pt_cmpR op_gt (pe_op op_add (pe_op op_mul (pe_op op_mul (pv 2) (pv 3)) (pv 4)) pe_int) (pv 1) (nomark _)) (pss_one (ps_asg (pe_tup (pa_cons pe_int (pa_cons pe_int (pa_cons (pe_callB (call_min2 rfl) (by rfl) T.min (by decide +kernel) (pa_cons pe_int (pa_cons (pv 1) pa_nil))) pa_nil)))) (pg7 (n := 3) K (by rfl) (pgs_cons (pg_name (i := 2) sc_l_blocks.nd rfl (Or.inr rfl)) (pgs_cons (pg_name (i := 3) sc_l_blocks.nd rfl (Or.inl rfl)) (pgs_cons (pg_name (i := 4) sc_l_blocks.nd rfl (Or.inr rfl)) pgs_nil)))))) pss_nil)
      (pss_cons (ps_setLc (i := 5) (own := [("_law_j", 8)]) (g := gName 8) (by rfl) sc_l_blocks.nd rfl rfl (sw_true rfl rfl rfl (by decide +kernel)) (pi_range1 (by rfl) T.range (pa_cons (pv 3) pa_nil)) (blkOk_by (by kernel_rfl)) (fun _ _ _ _ _ => pg_name (i := 8) sc_l_blocks.nd rfl (Or.inl rfl)) (fun _ _ _ _ _ => pts_nil) (fun _ _ _ _ _ => (pe_lc (own := [("_law_i", 9)]) (g := gName 9) (by rfl) sc_l_blocks.nd (pi_range1 (by rfl) T.range (pa_cons (pv 2) pa_nil)) (blkOk_by (by kernel_rfl)) (fun _ _ _ _ _ => pg_name (i := 9) sc_l_blocks.nd rfl (Or.inl rfl)) (fun _ _ _ _ _ => pts_nil) (fun _ _ _ _ _ => (pe_has H_l_take (hr.mono (by decide)) (pa_cons (pv 0) (pa_cons (pv 4) pa_nil)))))))
      (pss_cons (ps_setLc (i := 6) (own := [("_law_j", 8)]) (g := gName 8) (by rfl) sc_l_blocks.nd rfl rfl (sw_true rfl rfl rfl (by decide +kernel)) (pi_range1 (by rfl) T.range (pa_cons (pv 3) pa_nil)) (blkOk_by (by kernel_rfl)) (fun _ _ _ _ _ => pg_name (i := 8) sc_l_blocks.nd rfl (Or.inl rfl)) (fun _ _ _ _ _ => pts_nil) (fun _ _ _ _ _ => (pe_lc (own := [("_law_i", 9)]) (g := gName 9) (by rfl) sc_l_blocks.nd (pi_range1 (by rfl) T.range (pa_cons (pv 2) pa_nil)) (blkOk_by (by kernel_rfl)) (fun _ _ _ _ _ => pg_name (i := 9) sc_l_blocks.nd rfl (Or.inl rfl)) (fun _ _ _ _ _ => pts_nil) (fun _ _ _ _ _ => (pe_cmpR op_eq (pe_has H_l_take (hr.mono (by decide)) (pa_cons (pv 0) (pa_cons pe_int pa_nil))) pe_int (nomark _))))))
      (pss_cons (ps_set (i := 7) sc_l_blocks.nd rfl (Or.inl rfl) (pe_and (pe_cmpR op_eq (pe_has H_l_take (hr.mono (by decide)) (pa_cons (pv 0) (pa_cons pe_int pa_nil))) pe_int (nomark _)) (pe_one (pe_cmpR op_lt (pe_op op_mul (pe_op op_mul (pv 2) (pv 3)) (pv 4)) (pv 1) (nomark _)))))
      (pss_one (ps_ret (pe_has H_l_triples (hr.mono (by decide)) (pa_cons (pv 2) (pa_cons (pv 3) (pa_cons (pv 4) (pa_cons (pv 5) (pa_cons (pv 6) (pa_cons (pv 7) pa_nil)))))))))))))))), ?_⟩)
  obtain ⟨l, rfl, st, q⟩ := h
  refine sq_ (setd_ (rd_plus (c := 1) (m := 2) ev_c (rd_take (m := 2) (ev_v rfl) ev_c (by omega) (by omega) st)) fun v1 H1 d1 ⟨a0, ha0, e1⟩ => ?_)
  subst e1
  refine sq_ (setd_ (rd_plus (c := 1) (m := 2) ev_c (rd_take (m := 2) (ev_v rfl) ev_c (by omega) (by omega) d1.st)) fun v2 H2 d2 ⟨b0, hb0, e2⟩ => ?_)
  subst e2
  refine sq_ (setd_ (rd_plus (c := 1) (m := 2) ev_c (rd_take (m := 2) (ev_v rfl) ev_c (by omega) (by omega) d2.st)) fun v3 H3 d3 ⟨g0, hg0, e3⟩ => ?_)
  subst e3
  have d13 := (d1.trans d2).trans d3
  refine sq_ (ifany_ (fun σ H' => Dr l H H' ∧ ∃ a b g : Nat, σ = [some (.ref l), some (.int 4), some (.int (a : Nat)), some (.int (b : Nat)), some (.int (g : Nat)), none, none, none, none, none] ∧ 0 < a ∧ a < 3 ∧ 0 < b ∧ b < 3 ∧ 0 < g ∧ g < 3 ∧ a * b * g ≤ 2) (et_t (ev_gtN (ev_addN (ev_mulN (ev_mulN (ev_v (v := .int ((1 + a0 : Nat) : Int)) rfl) (ev_v (v := .int ((1 + b0 : Nat) : Int)) rfl) (by omega)) (ev_v (v := .int ((1 + g0 : Nat) : Int)) rfl) (by
    have : (1 + a0) * (1 + b0) ≤ 2 * 2 := Nat.mul_le_mul (by omega) (by omega)
    omega)) (ev_c (v := .int (1 : Nat)))) (ev_v (v := .int (4 : Nat)) rfl))) (fun hb nx' k => ?_) (fun hb => ?_) fun σ H4 h => ?_)
  · refine rs_tup3 ev_c ev_c (ev_min (ev_c (v := .int (2 : Nat))) (ev_v (v := .int (4 : Nat)) rfl)) _ fun v4 H4 s4 ⟨p, e4, _, hp⟩ => tg3 e4 hp (k _ _ ⟨d13.same s4, 1, 1, 2, rfl, by omega, by omega, by omega, by omega, by omega, by omega, by omega⟩)
  · refine ⟨d13, 1 + a0, 1 + b0, 1 + g0, rfl, by omega, by omega, by omega, by omega, by omega, by omega, ?_⟩
    have h := of_decide_eq_false hb
    have a1 : a0 = 0 ∨ a0 = 1 := by omega
    have b1 : b0 = 0 ∨ b0 = 1 := by omega
    have g1 : g0 = 0 ∨ g0 = 1 := by omega
    rcases a1 with rfl | rfl <;> rcases b1 with rfl | rfl <;> rcases g1 with rfl | rfl <;> first | decide | (exfalso; revert h; decide)
  · obtain ⟨d4, a, b, g, rfl, a1, a3, b1, b3, g1, g3, hm⟩ := h
    refine sq_ (setd_ (lcDD (f := fun z : Nat => V.int (z : Nat)) (p := fun z => z < g) (a := a) (b := b) (l := l) d4.st (ev_v rfl) (by omega) (by omega) (fun x H' _ => ev_v rfl) fun x y H' d => rd_take (m := g) (ev_v rfl) (ev_v rfl) g1 (by omega) d.st) fun tv H5 d5 ⟨tw, Sw, htw⟩ => ?_)
    refine sq_ (setd_ (lcDD (f := V.bl) (p := fun _ => True) (a := a) (b := b) (l := l) d5.st (ev_v rfl) (by omega) (by omega) (fun x H' _ => ev_v rfl) fun x y H' d => ?_) fun hv H6 d6 ⟨ho, Sh, hho⟩ => ?_)
    · intro Q q
      exact rd_take (m := 3) (ev_v rfl) (ev_c (v := .int (3 : Nat))) (by omega) (by omega) d.st _ fun v H7 d7 ⟨k, hk, e⟩ => ⟨by rw [e]; rfl, q _ _ d7 ⟨_, trivial, rfl⟩⟩
    · refine sq_ (setd_ (l := l) (P := fun _ v => ∃ z, v = .bl z) (fun Q q => rd_take (m := 2) (ev_v rfl) (ev_c (v := .int (2 : Nat))) (by omega) (by omega) d6.st _ fun v H7 d7 ⟨k, hk, e⟩ => ⟨by rw [e]; rfl, _, rfl, ite2 (fun _ => ?_) fun _ => q _ _ d7 ⟨_, rfl⟩⟩) fun zv H7 d7 ⟨z, ez⟩ => ?_)
      · exact ev_ltN (ev_mulN (ev_mulN (ev_v (v := .int (a : Nat)) rfl) (ev_v (v := .int (b : Nat)) rfl) (by omega)) (ev_v (v := .int (g : Nat)) rfl) (by
          have : a * b ≤ 2 * 2 := Nat.mul_le_mul (by omega) (by omega)
          omega)) (ev_v (v := .int (4 : Nat)) rfl) _ (q _ _ d7 ⟨_, rfl⟩)
      · subst ez
        have dd := d4.trans (d5.trans (d6.trans d7))
        have t7 := (htw.dr d6).dr d7
        have h7 := hho.dr d7
        refine rets_ (rs_call (P := fun H' u => Lt H' u (triT a b g tw ho z)) (ea_cons (ev_v rfl) (ea_cons (ev_v rfl) (ea_cons (ev_v rfl) (ea_cons (ev_v rfl) (ea_cons (ev_v rfl) (ea_cons (ev_v rfl) ea_nil)))))) fun Q q => ⟨a, b, g, tv, hv, tw, ho, z, rfl, a1, b1, g1, a3, b3, g3, ?_, ?_, Sw, Sh, fun u H' s h => q u H' s h⟩) fun u H8 s8 h8 => q u _ H8 (dd.same s8) h8 (tri_ok a1 b1 g1 hm Sw Sh)
        · obtain ⟨D, vs, e, _, hD, p⟩ := t7
          exact ⟨D, vs, e, hD, prd_imp p fun _ _ ⟨A, e, _, h⟩ => ⟨A, e, h⟩⟩
        · obtain ⟨D, vs, e, _, hD, p⟩ := h7
          exact ⟨D, vs, e, hD, prd_imp p fun _ _ ⟨A, e, _, h⟩ => ⟨A, e, h⟩⟩
end
end W7
end
section
set_option Elab.async false
set_option linter.all false
set_option maxRecDepth 100000
set_option maxHeartbeats 1000000
namespace W7
open PySem PySem.Spec PyProof.Rows L2 RZ K37 K37E M7
theorem rs_tab {σ : L2.St} {H : Hp} {ta tb el : TE} {i j n : Nat} (f : Nat → Nat → Nat) (h1 : n ≤ 1000) (hn : Ev tb σ H (.int (n : Nat))) (hn2 : ∀ (x : Nat) (H' : Hp), Same H H' → Ev ta (σ.set j (some (.int (x : Nat)))) H' (.int (n : Nat)))
    (he : ∀ (x y : Nat) (H' : Hp), x < n → y < n → Same H H' → Ev el ((σ.set j (some (.int (x : Nat)))).set i (some (.int (y : Nat)))) H' (.int (f x y : Nat))) :
    Rs (tLc (iRng1 (tCons tb tNil)) (gName j) tYes (tCB rTup7 (tCons (tLc (iRng1 (tCons ta tNil)) (gName i) tYes el [i]) tNil)) [j]) σ H fun H' v => Lt H' v (tab n f) :=
  lcT_range (fun x => (List.range n).map fun y => f x y) hn h1 fun x H' hx s => rs_tupN (Rs.imp (lcN_range (fun _ => true) (fun y => f x y) (hn2 x H' s) h1 (fun _ _ _ _ Q q => q) fun y H2 hy _ s2 => he x y H2 hx hy (s.trans s2)) fun H2 v _ h => by rwa [filter_true] at h)
section
variable {P : Program} {w : World} {K : PySem.W.Frag} {mg : Str → Option Value} {base : Heap} {C : Addr}
theorem retcall {nx bk ct : L2.St → Hp → Prop} {rt : VK} {σ : L2.St} {H : Hp} {sp : Sp} {t : TA} {vs : List V} (h : Ea t σ H vs) (k : sp vs H rt E0) : tRet (tCall sp [] E0 t) ⟨nx, rt, bk, ct⟩ σ H := h _ (by
  rw [List.append_nil]
  exact k)
theorem sc_l_plain : FnScope ["_law_state_here", "_law_most", "_law_pick", "_law_n", "_law_x", "_law_y"] ["_law_state_here", "_law_most"] (defScope s_law_plain) := ⟨rfl, rfl, rfl, by decide +kernel, rfl, by decide +kernel, by decide +kernel⟩
theorem h_l_plain (D : Dfn K mg "_law_plain" s_law_plain) (T : Bl mg) (H_l_take : Has P w K mg base "_law_take" ["_law_state_here", "_law_m"] 1 spTake) (H_l_monogenic : Has P w K mg base "_law_monogenic" ["_law_state_here", "_law_most"] 2 spTab) (H_l_of_maps : Has P w K mg base "_law_of_maps" ["_law_state_here", "_law_most"] 3 spTab) (H_l_blocks : Has P w K mg base "_law_blocks" ["_law_state_here", "_law_most"] 2 spTab) : Has P w K mg base "_law_plain" ["_law_state_here", "_law_most"] 4 (spTab) := by
  refine D.has sc_l_plain (fun _ _ _ _ _ _ us hl => match us, hl with | [_, _], _ => rfl) (fun vs H Q E h => by obtain ⟨l, rfl, _⟩ := h; rfl) (fun f cdv A outer s H vs Q E hr h => ⟨_, (pss_cons (ps_set (i := 2) sc_l_plain.nd rfl (Or.inl rfl) (pe_has H_l_take (hr.mono (by decide)) (pa_cons (pv 0) (pa_cons pe_int pa_nil))))
      (pss_cons (ps_set (i := 3) sc_l_plain.nd rfl (Or.inr rfl) (pe_op op_add pe_int (pe_has H_l_take (hr.mono (by decide)) (pa_cons (pv 0) (pa_cons (pv 1) pa_nil)))))
      (pss_cons (ps_if (pt_cmpR op_eq (pv 2) pe_int (nomark _)) (pss_one (ps_ret (pe_lc (own := [("_law_x", 4)]) (g := gName 4) (by rfl) sc_l_plain.nd (pi_range1 (by rfl) T.range (pa_cons (pv 3) pa_nil)) (blkOk_by (by kernel_rfl)) (fun _ _ _ _ _ => pg_name (i := 4) sc_l_plain.nd rfl (Or.inr rfl)) (fun _ _ _ _ _ => pts_nil) (fun _ _ _ _ _ => (pe_callTy tup7 (by rfl) T.tuple (by decide +kernel) (pa_cons (pe_lc (own := [("_law_y", 5)]) (g := gName 5) (by rfl) sc_l_plain.nd (pi_range1 (by rfl) T.range (pa_cons (pv 3) pa_nil)) (blkOk_by (by kernel_rfl)) (fun _ _ _ _ _ => pg_name (i := 5) sc_l_plain.nd rfl (Or.inl rfl)) (fun _ _ _ _ _ => pts_nil) (fun _ _ _ _ _ => (pv 4))) pa_nil)))))) pss_nil)
      (pss_cons (ps_if (pt_cmpR op_eq (pv 2) pe_int (nomark _)) (pss_one (ps_ret (pe_lc (own := [("_law_x", 4)]) (g := gName 4) (by rfl) sc_l_plain.nd (pi_range1 (by rfl) T.range (pa_cons (pv 3) pa_nil)) (blkOk_by (by kernel_rfl)) (fun _ _ _ _ _ => pg_name (i := 4) sc_l_plain.nd rfl (Or.inl rfl)) (fun _ _ _ _ _ => pts_nil) (fun _ _ _ _ _ => (pe_callTy tup7 (by rfl) T.tuple (by decide +kernel) (pa_cons (pe_lc (own := [("_law_y", 5)]) (g := gName 5) (by rfl) sc_l_plain.nd (pi_range1 (by rfl) T.range (pa_cons (pv 3) pa_nil)) (blkOk_by (by kernel_rfl)) (fun _ _ _ _ _ => pg_name (i := 5) sc_l_plain.nd rfl (Or.inl rfl)) (fun _ _ _ _ _ => pts_nil) (fun _ _ _ _ _ => pe_int)) pa_nil)))))) pss_nil)
      (pss_cons (ps_if (pt_cmpR op_eq (pv 2) pe_int (nomark _)) (pss_one (ps_ret (pe_has H_l_monogenic (hr.mono (by decide)) (pa_cons (pv 0) (pa_cons (pv 1) pa_nil))))) pss_nil)
      (pss_cons (ps_if (pt_cmpR op_eq (pv 2) pe_int (nomark _)) (pss_one (ps_ret (pe_lc (own := [("_law_x", 4)]) (g := gName 4) (by rfl) sc_l_plain.nd (pi_range1 (by rfl) T.range (pa_cons (pv 3) pa_nil)) (blkOk_by (by kernel_rfl)) (fun _ _ _ _ _ => pg_name (i := 4) sc_l_plain.nd rfl (Or.inr rfl)) (fun _ _ _ _ _ => pts_nil) (fun _ _ _ _ _ => (pe_callTy tup7 (by rfl) T.tuple (by decide +kernel) (pa_cons (pe_lc (own := [("_law_y", 5)]) (g := gName 5) (by rfl) sc_l_plain.nd (pi_range1 (by rfl) T.range (pa_cons (pv 3) pa_nil)) (blkOk_by (by kernel_rfl)) (fun _ _ _ _ _ => pg_name (i := 5) sc_l_plain.nd rfl (Or.inl rfl)) (fun _ _ _ _ _ => pts_nil) (fun _ _ _ _ _ => (pe_callB (call_min2 rfl) (by rfl) T.min (by decide +kernel) (pa_cons (pv 4) (pa_cons (pv 5) pa_nil))))) pa_nil)))))) pss_nil)
      (pss_cons (ps_if (pt_cmpR op_lt (pv 2) pe_int (nomark _)) (pss_one (ps_ret (pe_has H_l_of_maps (hr.mono (by decide)) (pa_cons (pv 0) (pa_cons (pv 1) pa_nil))))) pss_nil)
      (pss_one (ps_ret (pe_has H_l_blocks (hr.mono (by decide)) (pa_cons (pv 0) (pa_cons (pv 1) pa_nil)))))))))))), ?_⟩)
  obtain ⟨l, rfl, st, q⟩ := h
  refine sq_ (setd_ (rd_take (m := 8) (ev_v rfl) (ev_c (v := .int (8 : Nat))) (by omega) (by omega) st) fun v1 H1 d1 ⟨pk, hpk, e1⟩ => ?_)
  subst e1
  refine sq_ (setd_ (rd_plus (c := 1) (m := 4) ev_c (rd_take (m := 4) (ev_v rfl) (ev_v rfl) (by omega) (by omega) d1.st)) fun v2 H2 d2 ⟨n0, hn0, e2⟩ => ?_)
  subst e2
  obtain ⟨n, en⟩ : ∃ n, n = 1 + n0 := ⟨_, rfl⟩
  rw [← en]
  have dd := d1.trans d2
  have n0' : 0 < n := by omega
  have n4 : n ≤ 4 := by omega
  have q2 : ∀ u t H', Same H2 H' → Lt H' u t → Ok4 t → Q u H' := fun u t H' s h o => q u t H' (dd.same s) h o
  have pkv : ∀ (σ : L2.St) (c : Nat), σ[2]? = some (some (.int (pk : Nat))) → Et (tTest (tOp rEq (tVar 2) (tC (.int (c : Nat))))) σ H2 (decide (pk = c)) := fun σ c h => et_t (ev_eqN (ev_v h) (ev_c (v := .int (c : Nat))))
  refine sq_ (ifn_ (pkv _ 0 rfl) (fun _ => rets_ (rs_tab (fun x _ => x) (by omega) (ev_v rfl) (fun x H' _ => ev_v rfl) fun x y H' hx hy s => ev_v rfl) fun u H' s h => q2 u _ H' s h (left_ok n0' n4)) fun _ => ?_)
  refine sq_ (ifn_ (pkv _ 1 rfl) (fun _ => rets_ (rs_tab (fun _ _ => 0) (by omega) (ev_v rfl) (fun x H' _ => ev_v rfl) fun x y H' hx hy s => ev_c (v := .int (0 : Nat))) fun u H' s h => q2 u _ H' s h (null_ok n0' n4)) fun _ => ?_)
  refine sq_ (ifn_ (pkv _ 2 rfl) (fun _ => retcall (ea_cons (ev_v rfl) (ea_cons (ev_v rfl) ea_nil)) ⟨l, rfl, dd.st, fun u t H' d h o => q u t H' (dd.trans d) h o⟩) fun _ => ?_)
  refine sq_ (ifn_ (pkv _ 3 rfl) (fun _ => rets_ (rs_tab (fun x y => min x y) (by omega) (ev_v rfl) (fun x H' _ => ev_v rfl) fun x y H' hx hy s => ev_min (ev_v rfl) (ev_v rfl)) fun u H' s h => q2 u _ H' s h (min_ok n0' n4)) fun _ => ?_)
  refine sq_ (ifn_ (et_t (ev_ltN (ev_v rfl) (ev_c (v := .int (6 : Nat))))) (fun _ => retcall (ea_cons (ev_v rfl) (ea_cons (ev_v rfl) ea_nil)) ⟨l, rfl, dd.st, fun u t H' d h o => q u t H' (dd.trans d) h o⟩) fun _ => ?_)
  exact retcall (ea_cons (ev_v rfl) (ea_cons (ev_v rfl) ea_nil)) ⟨l, rfl, dd.st, fun u t H' d h o => q u t H' (dd.trans d) h o⟩
end
end W7
end
section
set_option Elab.async false
set_option linter.all false
set_option maxRecDepth 100000
set_option maxHeartbeats 1000000
namespace W7
open PySem PySem.Spec PyProof.Rows L2 RZ K37 K37E M7
theorem row_eq {t : List (List Nat)} (S : Sq t) {x : Nat} (hx : x < t.length) : (List.range t.length).map (fun y => mul t x y) = t.getD x [] := by
  have lr := sq_row S hx
  refine ext_at (by rw [List.length_map, List.length_range, lr]) fun y hy => ?_
  rw [List.length_map, List.length_range] at hy
  rw [at_map (by rw [List.length_range]; exact hy), at_range hy]
  rfl
theorem tab_succ (n : Nat) (f : Nat → Nat → Nat) : tab (n + 1) f = ((List.range n).map fun x => (List.range n).map (fun y => f x y) ++ [f x n]) ++ [(List.range n).map (fun y => f n y) ++ [f n n]] := by
  unfold tab
  simp only [List.range_succ, List.map_append, List.map_cons, List.map_nil]
theorem map_rows {t : List (List Nat)} (S : Sq t) (g : Nat → Nat) : ((List.range t.length).map fun x => (List.range t.length).map (fun y => mul t x y) ++ [g x]) = (List.range t.length).map fun x => t.getD x [] ++ [g x] := List.map_congr_left fun x hx => by rw [row_eq S (List.mem_range.mp hx)]
theorem tab_zero {t : List (List Nat)} (S : Sq t) : tab (t.length + 1) (zeF t) = t.map (fun r => r ++ [t.length]) ++ [List.replicate (t.length + 1) t.length] := by
  rw [tab_succ]
  have nn : ¬ t.length < t.length := Nat.lt_irrefl _
  congr 1
  · have e1 : ((List.range t.length).map fun x => (List.range t.length).map (fun y => zeF t x y) ++ [zeF t x t.length]) = (List.range t.length).map fun x => (List.range t.length).map (fun y => mul t x y) ++ [t.length] := List.map_congr_left fun x hx => by
      rw [zeF_r nn]
      congr 1
      exact List.map_congr_left fun y hy => zeF_in (List.mem_range.mp hx) (List.mem_range.mp hy)
    rw [e1, map_rows S fun _ => t.length]
    apply List.ext_getElem (by simp)
    intro x h1 h2
    rw [List.getElem_map, List.getElem_range, List.getElem_map, row_getD]
  · rw [zeF_l nn, List.replicate_succ']
    congr 2
    have e2 : (List.range t.length).map (fun y => zeF t t.length y) = (List.range t.length).map fun _ => t.length := List.map_congr_left fun y _ => zeF_l nn
    rw [e2, List.map_const', List.length_range]
theorem tab_unit {t : List (List Nat)} (S : Sq t) : tab (t.length + 1) (unF t) = ((List.range t.length).map fun x => t.getD x [] ++ [x]) ++ [List.range (t.length + 1)] := by
  rw [tab_succ]
  congr 1
  · have e1 : ((List.range t.length).map fun x => (List.range t.length).map (fun y => unF t x y) ++ [unF t x t.length]) = (List.range t.length).map fun x => (List.range t.length).map (fun y => mul t x y) ++ [x] := List.map_congr_left fun x hx => by
      rw [unF_r]
      congr 1
      exact List.map_congr_left fun y hy => unF_in (List.mem_range.mp hx) (List.mem_range.mp hy)
    rw [e1, map_rows S fun x => x]
  · rw [unF_l, List.range_succ]
    congr 2
    have e2 : (List.range t.length).map (fun y => unF t t.length y) = (List.range t.length).map fun y => y := List.map_congr_left fun y _ => unF_l
    rw [e2, List.map_id']
theorem two_ab {p : Nat → Nat → Prop} (h00 : p 0 0) (h01 : p 0 1) (h10 : p 1 0) (h11 : p 1 1) : ∀ a b, a < 2 → b < 2 → p a b := fun a b ha hb => by
  match a, b, ha, hb with
  | 0, 0, _, _ => exact h00
  | 0, 1, _, _ => exact h01
  | 1, 0, _, _ => exact h10
  | 1, 1, _, _ => exact h11
theorem two_a : ∀ a b, a < 2 → b < 2 → mul [[0, 1], [1, 0]] a b < 2 ∧ b < (([[0, 1], [1, 0]] : List (List Nat)).getD a []).length := two_ab (by decide) (by decide) (by decide) (by decide)
theorem two_c : ∀ a b, a < 2 → b < 2 → mul [[0, 0], [0, 1]] a b < 2 ∧ b < (([[0, 0], [0, 1]] : List (List Nat)).getD a []).length := two_ab (by decide) (by decide) (by decide) (by decide)
theorem two_b : ∀ a b c, a < 2 → b < 2 → c < 2 → mul [[0, 1], [1, 0]] (mul [[0, 1], [1, 0]] a b) c = mul [[0, 1], [1, 0]] a (mul [[0, 1], [1, 0]] b c) := fun a b c ha hb hc => by
  match c, hc with
  | 0, _ => exact two_ab (p := fun a b => mul [[0, 1], [1, 0]] (mul [[0, 1], [1, 0]] a b) 0 = mul [[0, 1], [1, 0]] a (mul [[0, 1], [1, 0]] b 0)) (by decide) (by decide) (by decide) (by decide) a b ha hb
  | 1, _ => exact two_ab (p := fun a b => mul [[0, 1], [1, 0]] (mul [[0, 1], [1, 0]] a b) 1 = mul [[0, 1], [1, 0]] a (mul [[0, 1], [1, 0]] b 1)) (by decide) (by decide) (by decide) (by decide) a b ha hb
theorem two_d : ∀ a b c, a < 2 → b < 2 → c < 2 → mul [[0, 0], [0, 1]] (mul [[0, 0], [0, 1]] a b) c = mul [[0, 0], [0, 1]] a (mul [[0, 0], [0, 1]] b c) := fun a b c ha hb hc => by
  match c, hc with
  | 0, _ => exact two_ab (p := fun a b => mul [[0, 0], [0, 1]] (mul [[0, 0], [0, 1]] a b) 0 = mul [[0, 0], [0, 1]] a (mul [[0, 0], [0, 1]] b 0)) (by decide) (by decide) (by decide) (by decide) a b ha hb
  | 1, _ => exact two_ab (p := fun a b => mul [[0, 0], [0, 1]] (mul [[0, 0], [0, 1]] a b) 1 = mul [[0, 0], [0, 1]] a (mul [[0, 0], [0, 1]] b 1)) (by decide) (by decide) (by decide) (by decide) a b ha hb
theorem Lt.dr {l : Addr} {H H' : Hp} {v : V} {t : List (List Nat)} (h : Lt H v t) (st : StO H l) (d : Dr l H H') (hp : 0 < t.length) : Lt H' v t := by
  obtain ⟨a, vs, rfl, ha, p⟩ := h
  have na : a ≠ l := fun z => by
    obtain ⟨x, y, e⟩ := st
    rw [z, e] at ha
    cases ha
    match t, hp with
    | _ :: _, _ =>
      cases p with
      | cons r _ =>
        obtain ⟨b, e, _⟩ := r
        cases e
  exact ⟨a, vs, rfl, d.but _ _ na ha, tns_fx p (d.fx st)⟩
section
variable {σ : L2.St} {H : Hp} {ta tb te : TE}
theorem rs_cat7 {v : V} {r : List Nat} {x : Nat} (ha : Ev ta σ H v) (hr : Tn H v r) (he : Ev te σ H (.int (x : Nat))) (hl : r.length ≤ 100) (hp : 0 < r.length) : Rs (tOp rCat7 ta (tTup (tCons te tNil))) σ H fun H' u => Tn H' u (r ++ [x]) := fun Q q => ha _ (he _ ⟨by show 1 ≤ sizeLine; decide, fun p hpn => by
  obtain ⟨a, rfl, h⟩ := hr
  refine ⟨a, p, nv r, nv [x], rfl, rfl, same_new hpn _ _ h, upd_same, ?_, fun z => (by cases z), fun z => ?_, fun _ p2 hp2 => q _ _ ((same_new hpn).trans (same_new hp2)) ⟨p2, rfl, by rw [upd_same, nv_append]⟩⟩
  · rw [nv_len]
    have : 1000 < sizeLine := by decide
    show r.length + 1 ≤ sizeLine
    omega
  · have e : r = [] := nv_inj z
    rw [e] at hp
    exact absurd hp (Nat.lt_irrefl _)⟩)
theorem rs_catT {A B : List (List Nat)} (ha : Rs ta σ H fun H' v => Lt H' v A) (hb : ∀ H', Same H H' → Rs tb σ H' fun H2 v => Lt H2 v B) (hl : A.length + B.length ≤ 1000) : Rs (tOp rCat ta tb) σ H fun H' v => Lt H' v (A ++ B) := fun Q q => ha _ fun u H1 s1 h1 => hb H1 s1 _ fun w H2 s2 h2 => by
  obtain ⟨a, xs, rfl, e1, p1⟩ := h1.same s2
  obtain ⟨b, ys, rfl, e2, p2⟩ := h2
  exact ⟨a, b, xs, ys, rfl, rfl, e1, e2, by rw [prd_len p1, prd_len p2]; exact sl1000 hl, fun p hp => q _ _ ((s1.trans s2).trans (same_new hp)) ⟨p, _, rfl, upd_same, tns_fx (prd_app p1 p2) (fx_new hp)⟩⟩
theorem rs_one {r : List Nat} (h : Rs te σ H fun H' v => Tn H' v r) : Rs (tLst (tCons te tNil)) σ H fun H' v => Lt H' v [r] := Rs.imp (rs_lst1 (P := fun H' u => Tn H' u r) h fun _ _ _ f h => h.fx f) fun H' v s ⟨p, u, e, _, h, h2⟩ => ⟨p, [u], e, h, prd_one h2⟩
theorem rs_two2 {a b c d : TE} {w x y z : Nat} (ha : ∀ H, Ev a σ H (.int (w : Nat))) (hb : ∀ H, Ev b σ H (.int (x : Nat))) (hc : ∀ H, Ev c σ H (.int (y : Nat))) (hd : ∀ H, Ev d σ H (.int (z : Nat))) : Rs (tLst (tCons (tTup (tCons a (tCons b tNil))) (tCons (tTup (tCons c (tCons d tNil))) tNil))) σ H fun H' v => Lt H' v [[w, x], [y, z]] := fun Q q => ha _ _ (hb _ _ ⟨by show 2 ≤ sizeLine; decide, fun p hp => hc _ _ (hd _ _ ⟨by show 2 ≤ sizeLine; decide, fun p2 hp2 => ⟨by show 2 ≤ sizeLine; decide, fun p3 hp3 => q _ _ (((same_new hp).trans (same_new hp2)).trans (same_new hp3)) ⟨p3, _, rfl, upd_same, .cons ⟨p, rfl, same_new hp3 _ _ (same_new hp2 _ _ upd_same)⟩ (.cons ⟨p2, rfl, same_new hp3 _ _ upd_same⟩ .nil)⟩⟩⟩)⟩)
end
section
variable {P : Program} {w : World} {K : PySem.W.Frag} {mg : Str → Option Value} {base : Heap} {C : Addr}
def spExtd : Sp := fun vs H Q _ => ∃ (l : Addr) (v : V) (t : List (List Nat)), vs = [.ref l, v, .int 4] ∧ StO H l ∧ Lt H v t ∧ Ok4 t ∧ ∀ u t' H', Dr l H H' → Lt H' u t' → Ok4 t' → Q u H'
theorem sc_l_extended : FnScope ["_law_state_here", "_law_table", "_law_most", "_law_n", "_law_pick", "_law_second", "_law_x", "_law_y", "_law_row"] ["_law_state_here", "_law_table", "_law_most"] (defScope s_law_extended) := ⟨rfl, rfl, rfl, by decide +kernel, rfl, by decide +kernel, by decide +kernel⟩
theorem h_l_extended (D : Dfn K mg "_law_extended" s_law_extended) (T : Bl mg) (H_l_take : Has P w K mg base "_law_take" ["_law_state_here", "_law_m"] 1 spTake) : Has P w K mg base "_law_extended" ["_law_state_here", "_law_table", "_law_most"] 2 (spExtd) := by
  refine D.has sc_l_extended (fun _ _ _ _ _ _ us hl => match us, hl with | [_, _, _], _ => rfl) (fun vs H Q E h => by obtain ⟨l, v, t, rfl, _⟩ := h; rfl) (fun f cdv A outer s H vs Q E hr h => ⟨_, (pss_cons (ps_set (i := 3) sc_l_extended.nd rfl (Or.inr rfl) (pe_callB len7 (by rfl) T.len (by decide +kernel) (pa_cons (pv 1) pa_nil)))
      (pss_cons (ps_set (i := 4) sc_l_extended.nd rfl (Or.inl rfl) (pe_has H_l_take (hr.mono (by decide)) (pa_cons (pv 0) (pa_cons pe_int pa_nil))))
      (pss_cons (ps_if (pt_cmpR op_eq (pv 4) pe_int (nomark _)) (pss_one (ps_ret (pe_lc (own := [("_law_x", 6)]) (g := gName 6) (by rfl) sc_l_extended.nd (pi_range1 (by rfl) T.range (pa_cons (pv 3) pa_nil)) (blkOk_by (by kernel_rfl)) (fun _ _ _ _ _ => pg_name (i := 6) sc_l_extended.nd rfl (Or.inr rfl)) (fun _ _ _ _ _ => pts_nil) (fun _ _ _ _ _ => (pe_callTy tup7 (by rfl) T.tuple (by decide +kernel) (pa_cons (pe_lc (own := [("_law_y", 7)]) (g := gName 7) (by rfl) sc_l_extended.nd (pi_range1 (by rfl) T.range (pa_cons (pv 3) pa_nil)) (blkOk_by (by kernel_rfl)) (fun _ _ _ _ _ => pg_name (i := 7) sc_l_extended.nd rfl (Or.inl rfl)) (fun _ _ _ _ _ => pts_nil) (fun _ _ _ _ _ => (pe_ix ix7T (pe_ix ix7L (pv 1) (pv 7) (fun _ _ => rfl)) (pv 6) (fun _ _ => rfl)))) pa_nil)))))) pss_nil)
      (pss_cons (ps_if (PW.pt (pw_and (pt_cmpR op_eq (pv 4) pe_int (nomark _)) (pw_and1 (pt_cmpR op_lt (pv 3) (pv 2) (nomark _))))) (pss_one (ps_ret (pe_op op_cat (pe_lc (own := [("_law_row", 8)]) (g := gName 8) (by rfl) sc_l_extended.nd (pi7L K (pv 1)) (blkOk_by (by kernel_rfl)) (fun _ _ _ _ _ => pg_name (i := 8) sc_l_extended.nd rfl (Or.inl rfl)) (fun _ _ _ _ _ => pts_nil) (fun _ _ _ _ _ => (pe_op cat7 (pv 8) (pe_tup (pa_cons (pv 3) pa_nil))))) (pe_lst (pa_cons (pe_callTy tup7 (by rfl) T.tuple (by decide +kernel) (pa_cons (pe_lc (own := [("_law_y", 7)]) (g := gName 7) (by rfl) sc_l_extended.nd (pi_range1 (by rfl) T.range (pa_cons (pe_op op_add (pv 3) pe_int) pa_nil)) (blkOk_by (by kernel_rfl)) (fun _ _ _ _ _ => pg_name (i := 7) sc_l_extended.nd rfl (Or.inl rfl)) (fun _ _ _ _ _ => pts_nil) (fun _ _ _ _ _ => (pv 3))) pa_nil)) pa_nil))))) pss_nil)
      (pss_cons (ps_if (PW.pt (pw_and (pt_cmpR op_eq (pv 4) pe_int (nomark _)) (pw_and1 (pt_cmpR op_lt (pv 3) (pv 2) (nomark _))))) (pss_one (ps_ret (pe_op op_cat (pe_lc (own := [("_law_x", 6)]) (g := gName 6) (by rfl) sc_l_extended.nd (pi_range1 (by rfl) T.range (pa_cons (pv 3) pa_nil)) (blkOk_by (by kernel_rfl)) (fun _ _ _ _ _ => pg_name (i := 6) sc_l_extended.nd rfl (Or.inl rfl)) (fun _ _ _ _ _ => pts_nil) (fun _ _ _ _ _ => (pe_op cat7 (pe_ix ix7L (pv 1) (pv 6) (fun _ _ => rfl)) (pe_tup (pa_cons (pv 6) pa_nil))))) (pe_lst (pa_cons (pe_tupRg (by rfl) (by rfl) T.tuple (prg_1 (by rfl) T.range (pe_op op_add (pv 3) pe_int))) pa_nil))))) pss_nil)
      (pss_cons (ps_if (PW.pt (pw_and (pt_cmpR op_eq (pv 4) pe_int (nomark _)) (pw_and1 (pt_cmpR op_le (pe_op op_mul pe_int (pv 3)) (pv 2) (nomark _))))) (pss_cons (ps_set (i := 5) sc_l_extended.nd rfl (Or.inr rfl) (pe_lst (pa_cons (pe_tup (pa_cons pe_int (pa_cons pe_int pa_nil))) (pa_cons (pe_tup (pa_cons pe_int (pa_cons pe_int pa_nil))) pa_nil))))
      (pss_cons (ps_if (pt_cmpR op_eq (pe_has H_l_take (hr.mono (by decide)) (pa_cons (pv 0) (pa_cons pe_int pa_nil))) pe_int (nomark _)) (pss_one (ps_set (i := 5) sc_l_extended.nd rfl (Or.inr rfl) (pe_lst (pa_cons (pe_tup (pa_cons pe_int (pa_cons pe_int pa_nil))) (pa_cons (pe_tup (pa_cons pe_int (pa_cons pe_int pa_nil))) pa_nil))))) pss_nil)
      (pss_one (ps_ret (pe_lc (own := [("_law_x", 6)]) (g := gName 6) (by rfl) sc_l_extended.nd (pi_range1 (by rfl) T.range (pa_cons (pe_op op_mul pe_int (pv 3)) pa_nil)) (blkOk_by (by kernel_rfl)) (fun _ _ _ _ _ => pg_name (i := 6) sc_l_extended.nd rfl (Or.inr rfl)) (fun _ _ _ _ _ => pts_nil) (fun _ _ _ _ _ => (pe_callTy tup7 (by rfl) T.tuple (by decide +kernel) (pa_cons (pe_lc (own := [("_law_y", 7)]) (g := gName 7) (by rfl) sc_l_extended.nd (pi_range1 (by rfl) T.range (pa_cons (pe_op op_mul pe_int (pv 3)) pa_nil)) (blkOk_by (by kernel_rfl)) (fun _ _ _ _ _ => pg_name (i := 7) sc_l_extended.nd rfl (Or.inl rfl)) (fun _ _ _ _ _ => pts_nil) (fun _ _ _ _ _ => (pe_op op_add (pe_op op_mul pe_int (pe_ix ix7T (pe_ix ix7L (pv 1) (pe_op op_fdivN (pv 6) pe_int) (fun _ _ => rfl)) (pe_op op_fdivN (pv 7) pe_int) (fun _ _ => rfl))) (pe_ix ix7T (pe_ix ix7L (pv 5) (pe_op op_modN (pe_callTy call_int1 (by rfl) T.int (by decide +kernel) (pa_cons (pv 6) pa_nil)) pe_int) (fun _ _ => rfl)) (pe_op op_modN (pe_callTy call_int1 (by rfl) T.int (by decide +kernel) (pa_cons (pv 7) pa_nil)) pe_int) (fun _ _ => rfl))))) pa_nil)))))))) pss_nil)
      (pss_one (ps_ret (pv 1))))))))), ?_⟩)
  obtain ⟨l, v, t, rfl, st, hv, Ot, q⟩ := h
  have hp := Ot.sq.pos
  have h4 := Ot.le4
  have Sqt := Ot.sq
  refine sq_ (set_ (ev_lenLt (ev_v rfl) hv) (sq_ (setd_ (rd_take (m := 6) (ev_v rfl) (ev_c (v := .int (6 : Nat))) (by omega) (by omega) st) fun v1 H1 d1 ⟨pk, hpk, e1⟩ => ?_)))
  subst e1
  have hv1 := hv.dr st d1 hp
  have q2 : ∀ u t' H', Same H1 H' → Lt H' u t' → Ok4 t' → Q u H' := fun u t' H' s h o => q u t' H' (d1.same s) h o
  have pkv : ∀ (σ : L2.St) (H2 : Hp) (c : Nat), σ[4]? = some (some (.int (pk : Nat))) → Et (tTest (tOp rEq (tVar 4) (tC (.int (c : Nat))))) σ H2 (decide (pk = c)) := fun σ H2 c h => et_t (ev_eqN (ev_v h) (ev_c (v := .int (c : Nat))))
  refine sq_ (ifn_ (pkv _ _ 0 rfl) (fun _ => rets_ (rs_tab (fun x y => mul t y x) (by omega) (ev_v rfl) (fun x H' _ => ev_v rfl) fun x y H' hx hy s => ev_lt2 (ev_v rfl) (hv1.same s) (ev_v rfl) (ev_v rfl) hy (by rw [sq_row Sqt hy]; exact hx)) fun u H' s h => q2 u _ H' s h (opp_ok Ot)) fun _ => ?_)
  refine sq_ (ifn_ (et_and (pkv _ _ 1 rfl) fun _ => et_t (ev_ltN (ev_v (v := .int (t.length : Nat)) rfl) (ev_v (v := .int (4 : Nat)) rfl))) (fun hb => ?_) fun _ => ?_)
  · rw [Bool.and_eq_true] at hb
    have hlt := of_decide_eq_true hb.2
    refine rets_ (rs_catT (lcT_list (fun r => r ++ [t.length]) (ev_v rfl) hv1 (by omega) fun r u H' hr s hu => ?_) (fun H' s => rs_one (r := List.replicate (t.length + 1) t.length) (rs_tupN (Rs.imp (lcN_range (fun _ => true) (fun _ => t.length) (n := t.length + 1) (ev_addN (ev_v rfl) (ev_c (v := .int (1 : Nat)))) (by omega) (fun _ _ _ _ Q q => q) fun j H5 hj _ s5 => ev_v rfl) fun H5 v s5 h => ?_))) (by simp; omega)) fun u H' s h => q2 u _ H' s (tab_zero Sqt ▸ h) (zero_ok Ot hlt)
    · have := (Sqt.row r hr).1
      exact rs_cat7 (ev_v rfl) hu (ev_v rfl) (by omega) (by omega)
    · rw [filter_true, List.map_const', List.length_range] at h
      exact h
  refine sq_ (ifn_ (et_and (pkv _ _ 2 rfl) fun _ => et_t (ev_ltN (ev_v (v := .int (t.length : Nat)) rfl) (ev_v (v := .int (4 : Nat)) rfl))) (fun hb => ?_) fun _ => ?_)
  · rw [Bool.and_eq_true] at hb
    have hlt := of_decide_eq_true hb.2
    refine rets_ (rs_catT (lcT_range (fun x => t.getD x [] ++ [x]) (n := t.length) (ev_v rfl) (by omega) fun x H' hx s => ?_) (fun H' s => rs_one (r := List.range (t.length + 1)) (rs_tupRg (n := t.length + 1) (ev_addN (ev_v rfl) (ev_c (v := .int (1 : Nat)))) (by omega))) (by simp; omega)) fun u H' s h => q2 u _ H' s (tab_unit Sqt ▸ h) (unit_ok Ot hlt)
    obtain ⟨a, vs, e, ha, p⟩ := hv1.same s
    obtain ⟨u, hu, hur⟩ := prd_at p (getD_at (d := []) hx)
    subst e
    have := sq_row Sqt hx
    exact rs_cat7 (ev_ixLv (ev_v rfl) ha (ev_v rfl) hu) hur (ev_v rfl) (by omega) (by omega)
  refine sq_ (ifn_ (et_and (pkv _ _ 3 rfl) fun _ => et_t (ev_leN (ev_mulN (ev_c (v := .int (2 : Nat))) (ev_v (v := .int (t.length : Nat)) rfl) (by omega)) (ev_v (v := .int (4 : Nat)) rfl))) (fun hb => ?_) fun _ => ret_ (ev_v rfl) (q2 _ t _ (Same.refl _) hv1 Ot))
  rw [Bool.and_eq_true] at hb
  have hle := of_decide_eq_true hb.2
  refine sq_ (sets_ (rs_two2 (w := 0) (x := 0) (y := 0) (z := 1) (fun H => ev_c) (fun H => ev_c) (fun H => ev_c) (fun H => ev_c)) fun sv H2 s2 hsv => ?_)
  have d2 := d1.same s2
  have hv2 := hv1.same s2
  have fin : ∀ (sv : V) (sec : List (List Nat)) (H3 : Hp), Dr l H H3 → Lt H3 v t → Lt H3 sv sec → sec.length = 2 → (∀ a b, a < 2 → b < 2 → mul sec a b < 2 ∧ b < (sec.getD a []).length) → (∀ a b c, a < 2 → b < 2 → c < 2 → mul sec (mul sec a b) c = mul sec a (mul sec b c)) →
      tRet (tLc (iRng1 (tCons (tOp (rI CMul fun i j => .int (i * j)) (tC (.int 2)) (tVar 3)) tNil)) (gName 6) tYes (tCB rTup7 (tCons (tLc (iRng1 (tCons (tOp (rI CMul fun i j => .int (i * j)) (tC (.int 2)) (tVar 3)) tNil)) (gName 7) tYes (tOp (rI0 fun i j => .int (i + j)) (tOp (rI CMul fun i j => .int (i * j)) (tC (.int 2)) (tOp ixT (tOp ixL (tVar 1) (tOp (rI CDivN fun i j => .int (i.fdiv j)) (tVar 6) (tC (.int 2)))) (tOp (rI CDivN fun i j => .int (i.fdiv j)) (tVar 7) (tC (.int 2))))) (tOp ixT (tOp ixL (tVar 5) (tOp (rI (fun _ j => j ≠ 0) fun i j => .int (i.fmod j)) (tCB (fun xs H Q => (∃ i, xs = [.int i] ∧ Q (.int i) H) ∨ ∃ k, xs = [.bl k] ∧ Q (.int (if k then 1 else 0)) H) (tCons (tVar 6) tNil)) (tC (.int 2)))) (tOp (rI (fun _ j => j ≠ 0) fun i j => .int (i.fmod j)) (tCB (fun xs H Q => (∃ i, xs = [.int i] ∧ Q (.int i) H) ∨ ∃ k, xs = [.bl k] ∧ Q (.int (if k then 1 else 0)) H) (tCons (tVar 7) tNil)) (tC (.int 2))))) [7]) tNil)) [6])
        { nx := fun _ H' => Q .non H', rt := Q } [some (.ref l), some v, some (.int 4), some (.int (t.length : Nat)), some (.int (pk : Nat)), some sv, none, none, none] H3 := fun sv sec H3 d3 h3 hs3 l2 hs2 hsa => by
    refine rets_ (nx := fun _ H' => Q .non H') (rs_tab (n := 2 * t.length) (fun x y => 2 * mul t (x / 2) (y / 2) + mul sec (x % 2) (y % 2)) (by omega) (ev_mulN (ev_c (v := .int (2 : Nat))) (ev_v (v := .int (t.length : Nat)) rfl) (by omega)) (fun x H' _ => ev_mulN (ev_c (v := .int (2 : Nat))) (ev_v (v := .int (t.length : Nat)) rfl) (by omega)) fun x y H' hx hy s => ?_) fun u H' s h => q u _ H' (d3.same s) h (prod_ok Ot (by omega) (fun a b ha hb => (hs2 a b ha hb).1) hsa)
    have hx2 : x / 2 < t.length := by omega
    have hy2 : y / 2 < t.length := by omega
    have hxm : x % 2 < 2 := Nat.mod_lt _ (by decide)
    have hym : y % 2 < 2 := Nat.mod_lt _ (by decide)
    exact ev_addN (ev_mulN (ev_c (v := .int (2 : Nat))) (ev_lt2 (ev_v rfl) (h3.same s) (ev_divN (ev_v rfl) (ev_c (v := .int (2 : Nat))) (by decide) (by decide)) (ev_divN (ev_v rfl) (ev_c (v := .int (2 : Nat))) (by decide) (by decide)) hx2 (by rw [sq_row Sqt hx2]; exact hy2)) (by decide)) (ev_lt2 (ev_v rfl) (hs3.same s) (ev_modN (ev_int1 (ev_v rfl)) (ev_c (v := .int (2 : Nat))) (by decide)) (ev_modN (ev_int1 (ev_v rfl)) (ev_c (v := .int (2 : Nat))) (by decide)) (by rw [l2]; exact hxm) (hs2 _ _ hxm hym).2)
  refine sq_ ?_
  refine rd_take (m := 2) (ev_v rfl) (ev_c (v := .int (2 : Nat))) (by omega) (by omega) d2.st _ fun zv H4 d4 ⟨z, hz, ez⟩ => ?_
  subst ez
  have hv4 := hv2.dr d2.st d4 hp
  have hs4 := hsv.dr d2.st d4 (by decide)
  refine ⟨rfl, _, rfl, ite2 (fun _ => ?_) fun _ => ?_⟩
  · refine sets_ (nx := fun σ H => _) (rs_two2 (w := 0) (x := 1) (y := 1) (z := 0) (fun H => ev_c) (fun H => ev_c) (fun H => ev_c) (fun H => ev_c)) fun sv5 H5 s5 h5 => fin sv5 _ H5 ((d2.trans d4).same s5) (hv4.same s5) h5 rfl two_a two_b
  · exact fin sv _ H4 (d2.trans d4) hv4 hs4 rfl two_c two_d
end
end W7
end
section
set_option Elab.async false
set_option linter.all false
set_option maxRecDepth 100000
set_option maxHeartbeats 1000000
namespace W7
open PySem PySem.Spec PyProof.Rows L2 RZ K37 K37E M7
theorem filter_at {t : List (List Nat)} (b : List Nat → Bool) : ((List.range t.length).filter fun j => b (t.getD j [])).length = (t.filter b).length := by
  have e : (List.range t.length).map (fun j => t.getD j []) = t := by
    apply List.ext_getElem (by simp)
    intro j h1 h2
    rw [List.getElem_map, List.getElem_range, row_getD]
  conv => rhs; rw [← e, List.filter_map, List.length_map]
  rfl
theorem suffR {G : Prop} (R : V → Hp → Prop) (I : V → Hp → Prop) (g : (∀ v H, I v H → R v H) → G) (m : ∀ v H, I v H → R v H) : G := g m
theorem Lt.but {l : Addr} {H H' : Hp} {v : V} {t : List (List Nat)} (h : Lt H v t) (e : H l = some (.lst [])) (bu : But l H H') (hp : 0 < t.length) : Lt H' v t := by
  obtain ⟨a, vs, rfl, ha, p⟩ := h
  have na : a ≠ l := fun z => by
    rw [z, e] at ha
    have e2 : ([] : List V) = vs := by injection ha with q; injection q
    have := prd_len p
    rw [← e2] at this
    rw [← this] at hp
    exact absurd hp (Nat.lt_irrefl _)
  exact ⟨a, vs, rfl, bu _ _ na ha, tns_fx p (bu.fx e)⟩
section
variable {nx bk ct : L2.St → Hp → Prop} {rt : VK} {σ : L2.St} {H : Hp} {te to ta tb el tm ts tl : TE} {K : PySem.W.Frag} {l : Addr} {i : Nat} {x : V}
theorem rd_tab (hs : Ev ts σ H (.ref l)) (hm : Ev tm σ H (.int 4)) (st : StO H l) : Rd7 l (tCall spTab [] E0 (tCons ts (tCons tm tNil))) σ H fun H' v => ∃ t, Lt H' v t ∧ Ok4 t := fun Q q => hs _ (hm _ ⟨l, rfl, st, fun u t H' d h o => q u H' d ⟨t, h, o⟩⟩)
theorem rd_ext (hs : Ev ta σ H (.ref l)) (hb : Rd7 l tb σ H fun H' v => ∃ t, Lt H' v t ∧ Ok4 t) (hm : ∀ H', Ev tm σ H' (.int 4)) : Rd7 l (tCall spExtd [] E0 (tCons ta (tCons tb (tCons tm tNil)))) σ H fun H' v => ∃ t, Lt H' v t ∧ Ok4 t := fun Q q => hs _ (hb _ fun v H1 d1 ⟨t, h, o⟩ => hm H1 _ ⟨l, v, t, rfl, d1.st, h, o, fun u t' H' d h o => q u H' (d1.trans d) ⟨t', h, o⟩⟩)
theorem rd_ren {v : V} {t : List (List Nat)} (ha : ∀ H', Ev ta σ H' v) (hv : Lt H v t) (Ot : Ok4 t) (hs : Ev ts σ H (.ref l)) (st : StO H l) (hl : Ev tl σ H (.int (t.length : Nat))) : Rd7 l (tCall spRen [] E0 (tCons ta (tCons (tCall spOrder [] E0 (tCons ts (tCons tl tNil))) tNil))) σ H fun H' v => ∃ r, Lt H' v r ∧ Ok4 r ∧ r.length = t.length := fun Q q => ha _ _ (hs _ (hl _ ⟨l, t.length, rfl, by have := Ot.le4; omega, st, fun u o H' d ho io => ⟨v, u, t, o, rfl, hv.dr st d Ot.sq.pos, Ot, ho, io, fun x r H2 s hr Or el => q x H2 (d.same s) ⟨r, hr, Or, el⟩⟩⟩))
theorem es_cb {sp : Sp} {t : TA} {vs : List V} {b : Bool} (h : Ea t σ H vs) (k : ∀ Q : VK, (∀ H', Same H H' → Q (.bl b) H') → sp vs H Q E0) : Es (tTest (tCall sp [] E0 t)) σ H b := fun Q q => rs_call (P := fun _ v => v = .bl b) h (fun Q q => k Q fun H' s => q _ H' s rfl) _ fun v H' s e => ⟨b, e, q H' s⟩
theorem es_neN {n : Nat} (ha : Rs ta σ H fun _ v => v = .int (n : Nat)) (hb : ∀ H', Same H H' → Rs tb σ H' fun _ v => v = .int (n : Nat)) : Es (tTest (tOp rNe ta tb)) σ H false := fun Q q => ha _ fun v H1 s1 e1 => hb H1 s1 _ fun w H2 s2 e2 => by
  subst e1 e2
  exact ⟨rfl, _, rfl, by
    have e : (!decide (V.int (n : Nat) = V.int (n : Nat))) = false := by simp
    rw [e]
    exact q H2 (s1.trans s2)⟩
theorem rs_lenF {tt : TT} {t : List (List Nat)} (b : List Nat → Bool) {m : Nat} (e : (t.filter b).length = m) (hn : Ev te σ H x) (hx : Lt H x t) (h1 : t.length ≤ 1000) (ht : ∀ r v H', r ∈ t → Same H H' → Tn H' v r → Es tt (σ.set i (some v)) H' (b r)) (hel : ∀ v H', Ev el (σ.set i (some v)) H' v) :
    Rs (tCB rLen7 (tCons (tLc (iList K te) (gName i) tt el [i]) tNil)) σ H fun _ v => v = .int (m : Nat) := rs_lenL (P := fun H' v => ∃ a vs, v = .ref a ∧ H' a = some (.lst vs) ∧ vs.length = m) (fun Q q => by
  obtain ⟨p, vs, rfl, hp, pr⟩ := hx
  have hl := prd_len pr
  refine LcB.list (x := fun j => vs.getD j .non) (b := fun j => b (t.getD j [])) (r := fun j H2 u => True) ⟨fun j H' hj s => ?_, fun j H' hj hb s => (hel _ _).rs trivial, fun _ _ _ _ s h => h, by rw [hl]; exact sl1000 h1⟩ hn hp (fun j hj => by rw [List.getElem?_eq_getElem hj, List.getD_eq_getElem?_getD, List.getElem?_eq_getElem hj]; rfl) fun D H' us hD s e2 p => q _ _ s ⟨D, us, rfl, e2, ?_⟩
  · have hj' : j < t.length := by omega
    have e1 : t[j]? = some (t.getD j []) := by
      rw [List.getElem?_eq_getElem hj', List.getD_eq_getElem?_getD, List.getElem?_eq_getElem hj']; rfl
    obtain ⟨u, e2, e3⟩ := prd_at pr e1
    have e4 : vs.getD j .non = u := by rw [List.getD_eq_getElem?_getD, e2]; rfl
    rw [e4]
    exact ht _ u H' (List.mem_of_getElem? e1) s (e3.same s)
  · rw [prd_len p, hl, filter_at, e]) fun H' v h => h
theorem et_eqT7 {x y : V} {a b : List Nat} (ha : Ev ta σ H x) (hb : Ev tb σ H y) (hx : Tn H x a) (hy : Tn H y b) : Et (tTest (tOp rEqT7 ta tb)) σ H (decide (a = b)) := et_t (ev_op ha hb fun Q q => ⟨a, b, hx, hy, q⟩)
end
section
variable {P : Program} {w : World} {K : PySem.W.Frag} {mg : Str → Option Value} {base : Heap} {C : Addr}
theorem sc_l_semigroup : FnScope ["_law_state_here", "_law_most", "_law_table"] ["_law_state_here", "_law_most"] (defScope s_law_semigroup) := ⟨rfl, rfl, rfl, by decide +kernel, rfl, by decide +kernel, by decide +kernel⟩
theorem h_l_semigroup (D : Dfn K mg "_law_semigroup" s_law_semigroup) (T : Bl mg) (H_l_plain : Has P w K mg base "_law_plain" ["_law_state_here", "_law_most"] 4 spTab) (H_l_extended : Has P w K mg base "_law_extended" ["_law_state_here", "_law_table", "_law_most"] 2 spExtd) (H_l_order_of : Has P w K mg base "_law_order_of" ["_law_state_here", "_law_n"] 2 spOrder) (H_l_renamed : Has P w K mg base "_law_renamed" ["_law_table", "_law_order"] 1 spRen) : Has P w K mg base "_law_semigroup" ["_law_state_here", "_law_most"] 5 (spTab) := by
  refine D.has sc_l_semigroup (fun _ _ _ _ _ _ us hl => match us, hl with | [_, _], _ => rfl) (fun vs H Q E h => by obtain ⟨l, rfl, _⟩ := h; rfl) (fun f cdv A outer s H vs Q E hr h => ⟨_, (pss_cons (ps_set (i := 2) sc_l_semigroup.nd rfl (Or.inl rfl) (pe_has H_l_extended (hr.mono (by decide)) (pa_cons (pv 0) (pa_cons (pe_has H_l_plain (hr.mono (by decide)) (pa_cons (pv 0) (pa_cons (pv 1) pa_nil))) (pa_cons (pv 1) pa_nil)))))
      (pss_one (ps_ret (pe_has H_l_renamed (hr.mono (by decide)) (pa_cons (pv 2) (pa_cons (pe_has H_l_order_of (hr.mono (by decide)) (pa_cons (pv 0) (pa_cons (pe_callB len7 (by rfl) T.len (by decide +kernel) (pa_cons (pv 2) pa_nil)) pa_nil))) pa_nil)))))), ?_⟩)
  obtain ⟨l, rfl, st, q⟩ := h
  refine sq_ (setd_ (rd_ext (ev_v rfl) (rd_tab (ev_v rfl) (ev_v rfl) st) fun H' => ev_v rfl) fun v1 H1 d1 ⟨t, ht, Ot⟩ => ?_)
  exact retd_ (rd_ren (fun H' => ev_v rfl) ht Ot (ev_v rfl) d1.st (ev_lenLt (ev_v rfl) ht)) fun v2 H2 d2 ⟨r, hr, Or, _⟩ => q v2 r H2 (d1.trans d2) hr Or
def spLaw (K : PySem.W.Frag) : Sp := fun vs H Q _ => ∃ (p : Addr) (ns : List Int), vs = [.ref p] ∧ SqL K H p (ns.map V.int) ∧ ∀ H', Q (.bl true) H'
theorem sc_law : FnScope ["_law_script", "_law_state_here", "_law_one", "_law_two", "_law_a", "_law_b", "_law_kernels", "_law_images", "_law_equal", "_law_c", "_law_x", "_law_d"] ["_law_script"] (defScope s_law) := ⟨rfl, rfl, rfl, by decide +kernel, rfl, by decide +kernel, by decide +kernel⟩
theorem h_law {f : Addr} {fd : FuncData} (F : FunD K "law" "law" (defArgs s_law) (defBody s_law) (defScope s_law) [] [] f fd) (T : Bl mg) (S : SemF K mg C) (H_init : IHas P w K mg base C ["self", "table"] 4 (spInit C)) (H_l_state : Has P w K mg base "_law_state" ["_law_script"] 1 (spStateK K)) (H_l_semigroup : Has P w K mg base "_law_semigroup" ["_law_state_here", "_law_most"] 5 spTab) (H_l_take : Has P w K mg base "_law_take" ["_law_state_here", "_law_m"] 1 spTake) (H_l_order_of : Has P w K mg base "_law_order_of" ["_law_state_here", "_law_n"] 2 spOrder) (H_l_renamed : Has P w K mg base "_law_renamed" ["_law_table", "_law_order"] 1 spRen) (H_l_rows_of : Has P w K mg base "_law_rows_of" ["_law_n", "_law_count"] 1 spRows) (H_l_keeps : Has P w K mg base "_law_keeps" ["_law_one", "_law_two", "_law_images"] 1 spKeeps7) (H_l_kernel : Has P w K mg base "_law_kernel" ["_law_images"] 1 spKernel) (H_l_refines : Has P w K mg base "_law_refines" ["_law_c", "_law_d"] 1 spLRef) (H_congruences : Has P w K mg base "congruences" ["s"] 6 (spCongs C)) (H_quotient : Has P w K mg base "quotient" ["s", "classes"] 6 (spQuot C)) (H_count_homomorphisms : Has P w K mg base "count_homomorphisms" ["a", "b"] 6 (spHoms C)) (H_count_by_congruences : Has P w K mg base "count_by_congruences" ["a", "b"] 8 (spCbc C)) : FnOk P w K mg base CX0 10 f fd ["_law_script"] (spLaw K) := by
  refine F.ok sc_law (fun vs H Q E h => by obtain ⟨p, ns, rfl, _⟩ := h; rfl) fun cdv A outer s H vs Q E hr h => ?_
  refine ⟨_, PSs.nox (pss_cons (ps_set (i := 1) sc_law.nd rfl (Or.inl rfl) (pe_has H_l_state (hr.mono (by decide)) (pa_cons (pv 0) pa_nil)))
      (pss_cons (ps_set (i := 2) sc_law.nd rfl (Or.inl rfl) (pe_has H_l_semigroup (hr.mono (by decide)) (pa_cons (pv 1) (pa_cons pe_int pa_nil))))
      (pss_cons (ps_set (i := 3) sc_law.nd rfl (Or.inl rfl) (pe_has H_l_semigroup (hr.mono (by decide)) (pa_cons (pv 1) (pa_cons pe_int pa_nil))))
      (pss_cons (ps_if (pt_cmpR op_eq (pe_has H_l_take (hr.mono (by decide)) (pa_cons (pv 1) (pa_cons pe_int pa_nil))) pe_int (nomark _)) (pss_one (ps_set (i := 3) sc_law.nd rfl (Or.inl rfl) (pe_has H_l_renamed (hr.mono (by decide)) (pa_cons (pv 2) (pa_cons (pe_has H_l_order_of (hr.mono (by decide)) (pa_cons (pv 1) (pa_cons (pe_callB len7 (by rfl) T.len (by decide +kernel) (pa_cons (pv 2) pa_nil)) pa_nil))) pa_nil))))) pss_nil)
      (pss_cons (ps_set (i := 4) sc_law.nd rfl (Or.inl rfl) (pe_mk S H_init (hr.mono (by decide)) (pa_cons (pv 2) pa_nil)))
      (pss_cons (ps_set (i := 5) sc_law.nd rfl (Or.inl rfl) (pe_mk S H_init (hr.mono (by decide)) (pa_cons (pv 3) pa_nil)))
      (pss_cons (ps_set (i := 6) sc_law.nd rfl (Or.inl rfl) (pe_lst pa_nil))
      (pss_cons (ps_for PassesOwn.never (by rfl) (pi7L K (pe_has H_l_rows_of (hr.mono (by decide)) (pa_cons (pe_callB len7 (by rfl) T.len (by decide +kernel) (pa_cons (pv 3) pa_nil)) (pa_cons (pe_callB len7 (by rfl) T.len (by decide +kernel) (pa_cons (pv 2) pa_nil)) pa_nil)))) (pg_name (i := 7) sc_law.nd rfl (Or.inl rfl)) (pss_one (ps_if (pt_val (pe_has H_l_keeps (hr.mono (by decide)) (pa_cons (pv 2) (pa_cons (pv 3) (pa_cons (pv 7) pa_nil))))) (pss_one (ps_expr (pe_l7 PySem.F.slot_list_append PySem.F.type_list_append app7 (pv 6) (pa_cons (pe_has H_l_kernel (hr.mono (by decide)) (pa_cons (pv 7) pa_nil)) pa_nil)))) pss_nil)))
      (pss_cons (ps_set (i := 8) sc_law.nd rfl (Or.inr rfl) (pe_callTy tup7 (by rfl) T.tuple (by decide +kernel) (pa_cons (pe_lc (own := [("_law_x", 10)]) (g := gName 10) (by rfl) sc_law.nd (pi_range1 (by rfl) T.range (pa_cons (pe_callB len7 (by rfl) T.len (by decide +kernel) (pa_cons (pv 2) pa_nil)) pa_nil)) (blkOk_by (by kernel_rfl)) (fun _ _ _ _ _ => pg_name (i := 10) sc_law.nd rfl (Or.inl rfl)) (fun _ _ _ _ _ => pts_nil) (fun _ _ _ _ _ => (pv 10))) pa_nil)))
      (pss_cons (ps_if (pt_cmpR op_ne (pe_has H_count_by_congruences (hr.mono (by decide)) (pa_cons (pv 4) (pa_cons (pv 5) pa_nil))) (pe_callB len7 (by rfl) T.len (by decide +kernel) (pa_cons (pe_lc (own := [("_law_c", 9)]) (g := gName 9) (by rfl) sc_law.nd (pi7L K (pv 6)) (blkOk_by (by kernel_rfl)) (fun _ _ _ _ _ => pg_name (i := 9) sc_law.nd rfl (Or.inl rfl)) (fun _ _ _ _ _ => (pts_one (pt_cmpR (eqT7 hr.units) (pv 9) (pv 8) (nomark _)))) (fun _ _ _ _ _ => (pv 9))) pa_nil)) (nomark _)) (pss_one (ps_ret pe_bl)) pss_nil)
      (pss_cons (ps_for PassesOwn.never (by rfl) (pi7T K (pe_has H_congruences (hr.mono (by decide)) (pa_cons (pv 4) pa_nil))) (pg_name (i := 9) sc_law.nd rfl (Or.inr rfl)) (pss_one (ps_if (pt_cmpR op_ne (pe_has H_count_homomorphisms (hr.mono (by decide)) (pa_cons (pe_has H_quotient (hr.mono (by decide)) (pa_cons (pv 4) (pa_cons (pv 9) pa_nil))) (pa_cons (pv 5) pa_nil))) (pe_callB len7 (by rfl) T.len (by decide +kernel) (pa_cons (pe_lc (own := [("_law_d", 11)]) (g := gName 11) (by rfl) sc_law.nd (pi7L K (pv 6)) (blkOk_by (by kernel_rfl)) (fun _ _ _ _ _ => pg_name (i := 11) sc_law.nd rfl (Or.inl rfl)) (fun _ _ _ _ _ => (pts_one (pt_val (pe_has H_l_refines (hr.mono (by decide)) (pa_cons (pv 9) (pa_cons (pv 11) pa_nil)))))) (fun _ _ _ _ _ => (pv 11))) pa_nil)) (nomark _)) (pss_one (ps_ret pe_bl)) pss_nil)))
      (pss_one (ps_ret pe_bl))))))))))))), ?_⟩
  obtain ⟨p, ns, rfl, hp, q⟩ := h
  refine sq_ (sets_ (P := fun H' v => ∃ l, v = .ref l ∧ StO H' l) (rs_call (ea_cons (ev_v rfl) ea_nil) fun Q q => ⟨p, ns, rfl, hp, fun l H' s e st => q _ H' s ⟨l, rfl, st⟩⟩) fun v1 H1 s1 ⟨l, e1, st1⟩ => ?_)
  subst e1
  refine sq_ (setd_ (rd_tab (ev_v rfl) ev_c st1) fun v2 H2 d2 ⟨t, ht2, Ot⟩ => ?_)
  refine sq_ (setd_ (rd_tab (ev_v rfl) ev_c d2.st) fun v3 H3 d3 ⟨b0, hb3, Ob0⟩ => ?_)
  have tp := Ot.sq.pos
  have ht3 := ht2.dr d2.st d3 tp
  refine sq_ ?_
  refine rd_take (m := 3) (ev_v rfl) (ev_c (v := .int (3 : Nat))) (by omega) (by omega) d3.st _ fun zv H4 d4 ⟨z, hz, ez⟩ => ?_
  subst ez
  have ht4 := ht3.dr d3.st d4 tp
  have hb4 := hb3.dr d3.st d4 Ob0.sq.pos
  refine suffR _ (fun v H => ∃ b, Lt H v2 t ∧ Lt H v b ∧ Ok4 b) (fun main => ⟨rfl, _, rfl, ite2 (fun _ => setd_ (rd_ren (fun H' => ev_v rfl) ht4 Ot (ev_v rfl) d4.st (ev_lenLt (ev_v rfl) ht4)) fun v H d ⟨r, hr, Or, _⟩ => main v H ⟨r, ht4.dr d4.st d tp, hr, Or⟩) fun _ => main v3 H4 ⟨b0, ht4, hb4, Ob0⟩⟩) fun v4 H5 ⟨b, ht5, hb5, Ob⟩ => ?_
  refine sq_ (sets_ (rs_make ((ev_v rfl).rs (.inl ht5)) Ot.sq Ot.assoc) fun v6 H6 s6 ha6 => ?_)
  refine sq_ (sets_ (rs_make ((ev_v rfl).rs (.inl (hb5.same s6))) Ob.sq Ob.assoc) fun v7 H7 s7 hb7 => ?_)
  refine sq_ (sets_ rs_lst0 fun v8 H8 s8 ⟨kl, e8, hk0, hkl⟩ => ?_)
  subst e8
  have s58 := (s6.trans s7).trans s8
  have ht8 := ht5.same s58
  have hb8 := hb5.same s58
  have ha8 := ha6.same (s7.trans s8)
  have hbb8 := hb7.same s8
  have t4 := Ot.le4
  have b4 := Ob.le4
  have bp := Ob.sq.pos
  refine sq_ (forLs_ (P := fun H v => ∃ rl us, v = .ref rl ∧ H rl = some (.lst us) ∧ Paired (TnF H) us (rowsOf b.length t.length)) (rs_call (ea_cons (ev_lenLt (ev_v rfl) hb8) (ea_cons (ev_lenLt (ev_v rfl) ht8) ea_nil)) fun Q q => ⟨b.length, t.length, rfl, b4, tp, t4, fun rl us H' s h p => q _ H' s ⟨rl, us, rfl, h, p⟩⟩) fun v9 H9 s9 ⟨rl, us, e9, hrl, prl⟩ => ?_)
  subst e9
  have hkl9 := s9 _ _ hkl
  have lrows := rows_len b.length t.length
  have hlu := prd_len prl
  have few : (rowsOf b.length t.length).length ≤ 256 := by
    rw [lrows]
    have h1 : b.length ^ t.length ≤ 4 ^ t.length := Nat.pow_le_pow_left b4 _
    have h2 : 4 ^ t.length ≤ 4 ^ 4 := Nat.pow_le_pow_right (by decide) t4
    omega
  have nk : rl ≠ kl := fun z => by
    rw [z, hkl9] at hrl
    have e2 : ([] : List V) = us := by injection hrl with q; injection q
    rw [← e2, lrows] at hlu
    have := Nat.pow_pos (n := t.length) bp
    rw [← hlu] at this
    exact absurd this (Nat.lt_irrefl _)
  have ht9 := ht8.same s9
  have hb9 := hb8.same s9
  refine forL_ (p := rl) (xs := us) ev_c hrl (fun i σ H' => But kl H9 H' ∧ ∃ kvs a, σ = [some (.ref p), some (.ref l), some v2, some v4, some v6, some v7, some (.ref kl), a, none, none, none, none] ∧ H' kl = some (.lst kvs) ∧ Paired (Tn H') kvs ((((rowsOf b.length t.length).take i).filter (keepsB t b)).map ker)) ⟨fun _ _ _ e => e, [], none, rfl, hkl9, .nil⟩ (fun i σ H' h => h.1 _ _ nk hrl) (fun i x σ H' hx h => ?_) fun σ H' h => ?_
  · obtain ⟨bu, kvs, a, rfl, hkv, pk⟩ := h
    obtain ⟨f, hfi, hxf⟩ := prd_at' prl hx
    have hfm := mem_rowsOf.mp (List.mem_of_getElem? hfi)
    have fx9 := bu.fx hkl9
    have hxf' := hxf.fx fx9
    have et : (rowsOf b.length t.length).take (i + 1) = (rowsOf b.length t.length).take i ++ [f] := by rw [List.take_add_one, hfi]; rfl
    have small : kvs.length ≤ 256 := by
      rw [prd_len pk, List.length_map]
      have h1 := List.length_filter_le (keepsB t b) ((rowsOf b.length t.length).take i)
      have h2 := List.length_take_le i (rowsOf b.length t.length)
      have h3 : ((rowsOf b.length t.length).take i).length ≤ (rowsOf b.length t.length).length := by rw [List.length_take]; omega
      omega
    have big : 1000 < sizeLine := by decide
    refine ifsn_ (b := keepsB t b f) (es_cb (ea_cons (ev_v rfl) (ea_cons (ev_v rfl) (ea_cons (ev_v rfl) ea_nil))) fun Q q => ⟨v2, v4, x, t, b, f, rfl, ht9.but hkl9 bu tp, hb9.but hkl9 bu bp, Ot.sq, Ob.sq, hxf', hfm.1, hfm.2, fun H' s => q H' s⟩) (fun hb H2 s2 => ?_) fun hb H2 s2 => ?_
    · refine app_ (P := fun H' u => Tn H' u (ker f)) (ev_v rfl) (s2 _ _ hkv) (rs_call (ea_cons (ev_v rfl) ea_nil) fun Q q => ⟨x, f, rfl, hxf'.same s2, by omega, fun u H' s h => q u H' s h⟩) (by omega) fun v H3 s3 h3 => ?_
      have fxp := fx_put (o := HO.lst (kvs ++ [v])) ((s2.trans s3) _ _ hkv)
      refine ⟨(bu.same (s2.trans s3)).put, kvs ++ [v], _, rfl, upd_same, ?_⟩
      rw [et, List.filter_append, List.map_append]
      have e1 : ([f].filter (keepsB t b)).map ker = [ker f] := by simp [List.filter, hb]
      rw [e1]
      exact prd_app (tns_fx pk ((fx_of (s2.trans s3)).trans fxp)) (prd_one (h3.fx fxp))
    · refine ⟨bu.same s2, kvs, _, rfl, s2 _ _ hkv, ?_⟩
      rw [et, List.filter_append, List.map_append]
      have e1 : ([f].filter (keepsB t b)).map ker = [] := by simp [List.filter, hb]
      rw [e1, List.append_nil]
      exact tns_fx pk (fx_of s2)
  obtain ⟨bu, kvs, a, rfl, hkv, pk⟩ := h
  rw [hlu, List.take_length] at pk
  have fx9 := bu.fx hkl9
  have hK : Lt H' (.ref kl) ((homsL t b).map ker) := ⟨kl, kvs, rfl, hkv, pk⟩
  have ht10 := ht9.but hkl9 bu tp
  have ha10 := (ha8.same s9).fx fx9
  have hb10 := (hbb8.same s9).fx fx9
  have hom256 : ((homsL t b).map ker).length ≤ 1000 := by
    rw [List.length_map]
    have := homs_le (a := t) (b := b)
    rw [lrows] at few
    omega
  have kerlen : ∀ d ∈ (homsL t b).map ker, d.length = t.length := fun d hd => by
    obtain ⟨f, hf, e⟩ := List.mem_map.mp hd
    rw [← e]
    unfold ker
    rw [List.length_map]
    exact (mem_homsL.mp hf).len
  refine sq_ (sets_ (P := fun H' v => Tn H' v (List.range t.length)) (rs_tupN (Rs.imp (lcN_range (fun _ => true) (fun x => x) (n := t.length) (ev_lenLt (ev_v rfl) ht10) (by omega) (fun _ _ _ _ Q q => q) fun j H5 hj _ s5 => ev_v rfl) fun H5 v s5 h => by rw [filter_true, List.map_id'] at h; exact h)) fun v11 H11 s11 he11 => ?_)
  have ha11 := ha10.same s11
  have hb11 := hb10.same s11
  have hK11 := hK.same s11
  refine sq_ (chks_ (es_neN (n := ((homsL t b).filter fun f => decide (ker f = List.range t.length)).length) (rs_call (ea_cons (ev_v rfl) (ea_cons (ev_v rfl) ea_nil)) fun Q q => ⟨v6, v7, t, b, rfl, ha11, hb11, Ot.sq, Ob.sq, Ot.assoc, t4, b4, fun H' s => q _ H' s rfl⟩) fun H12 s12 => rs_lenF (fun c => decide (c = List.range t.length)) (by rw [List.filter_map, List.length_map]; rfl) (ev_v rfl) (hK11.same s12) hom256 (fun r v H13 hr s13 hv => (et_eqT7 (ev_v rfl) (ev_v rfl) hv (he11.same (s12.trans s13))).es) fun v H13 => ev_v rfl) fun H12 s12 => ?_)
  refine sq_ (forTs_ (P := fun H' u => Tt H' u (congs t)) (rs_call (ea_cons (ev_v rfl) ea_nil) fun Q q => ⟨v6, t, rfl, ha11.same s12, Ot.sq, t4, fun u H' s h => q u H' s h⟩) fun v13 H13 s13 hcv => ?_)
  obtain ⟨ca, cvs, rfl, hca, pc⟩ := hcv
  have s1113 := s12.trans s13
  refine forT_ (p := ca) (xs := cvs) ev_c hca (fun i σ H' => Same H13 H' ∧ ∃ a b c d, σ = [some (.ref p), some (.ref l), some v2, some v4, some v6, some v7, some (.ref kl), a, b, c, none, d]) ⟨Same.refl _, _, _, _, _, rfl⟩ (fun i σ H' h => h.1 _ _ hca) (fun i x σ H' hx h => ?_) fun σ H' h => ?_
  · obtain ⟨s14, a, b', c', d, rfl⟩ := h
    obtain ⟨c, hc, hxc⟩ := prd_at' pc hx
    have Cc := mem_congs.mp (List.mem_of_getElem? hc)
    have s1114 := s1113.trans s14
    have hql := quot_le Cc
    refine chks_ (es_neN (n := (homsL (quot t c) b).length) (rs_call2s (P := fun H' u => SG C H' u (quot t c)) (rs_call (P := fun H' u => SG C H' u (quot t c)) (ea_cons (ev_v rfl) (ea_cons (ev_v rfl) ea_nil)) fun Q q => ⟨v6, x, t, c, rfl, ha11.same s1114, Ot.sq, Ot.assoc, hxc.same s14, Cc, fun u H' s h => q u H' s h⟩) (fun H' s => ev_v (v := v7) rfl) (fun u H5 s5 hu Q q => ⟨u, v7, quot t c, b, rfl, hu, hb11.same (s1114.trans s5), quot_sq Ot.sq Cc, Ob.sq, by omega, b4, fun H' s => q _ H' s rfl⟩)) fun H15 s15 => rs_lenF (fun d => refB c d) (by rw [List.filter_map, List.length_map]; exact (quot_homs Ot.sq Ob.sq Cc).symm) (ev_v rfl) (hK11.same (s1114.trans s15)) hom256 (fun r v H16 hr s16 hv => es_cb (ea_cons (ev_v rfl) (ea_cons (ev_v rfl) ea_nil)) fun Q q => ⟨x, v, c, r, rfl, hxc.same (s14.trans (s15.trans s16)), hv, by rw [kerlen r hr, Cc.canon.len], fun y hy => ?_, by rw [Cc.canon.len]; omega, fun H' s => q H' s⟩) fun v H16 => ev_v rfl) fun H15 s15 => ⟨s14.trans s15, _, _, _, _, rfl⟩
    rw [Cc.canon.len] at hy ⊢
    exact Cc.canon.lt hy
  · obtain ⟨s14, a, b', c', d, rfl⟩ := h
    exact ret_ ev_c (q _)
end
end W7
end
section
set_option Elab.async false
set_option linter.all false
set_option maxRecDepth 100000
set_option maxHeartbeats 1000000
namespace W7
open PySem PySem.Spec PyProof.Rows L2 RZ K37 K37E M7
section
variable {P : Program} {w : World} {K : PySem.W.Frag} {mg : Str → Option Value} {base : Heap} {C : Addr}
theorem law_ok (T : Bl mg) (S : SemF K mg C) {t1 t2 t3 : Tok} (gM24 : mg "MOST_semigroup" = some (.int 24 t1)) (gM1000 : mg "MOST_CONGRUENCES" = some (.int 1000 t2)) (gM50000 : mg "MOST_homs" = some (.int 50000 t3))
    (D_is_integer : Dfn K mg "is_integer" s_is_integer)
    (D_is_item : Dfn K mg "is_item" s_is_item)
    (D_is_equivalence : Dfn K mg "is_equivalence" s_is_equivalence)
    (D_classes_of : Dfn K mg "classes_of" s_classes_of)
    (D_merged : Dfn K mg "merged" s_merged)
    (D_refines : Dfn K mg "refines" s_refines)
    (D_joined : Dfn K mg "joined" s_joined)
    (D_class_numbers : Dfn K mg "class_numbers" s_class_numbers)
    (D_class_count : Dfn K mg "class_count" s_class_count)
    (D_is_congruence : Dfn K mg "is_congruence" s_is_congruence)
    (D_is_associative : Dfn K mg "is_associative" s_is_associative)
    (D_taken_table : Dfn K mg "taken_table" s_taken_table)
    (D_check_pairs : Dfn K mg "check_pairs" s_check_pairs)
    (D_generated : Dfn K mg "generated" s_generated)
    (D_quotient : Dfn K mg "quotient" s_quotient)
    (D_congruences : Dfn K mg "congruences" s_congruences)
    (D_moebius_numbers : Dfn K mg "moebius_numbers" s_moebius_numbers)
    (D_close : Dfn K mg "close" s_close)
    (D_closing : Dfn K mg "closing" s_closing)
    (D_extended : Dfn K mg "extended" s_extended)
    (D_walk : Dfn K mg "walk" s_walk)
    (D_gathered : Dfn K mg "gathered" s_gathered)
    (D_count_homomorphisms : Dfn K mg "count_homomorphisms" s_count_homomorphisms)
    (D_count_by_congruences : Dfn K mg "count_by_congruences" s_count_by_congruences)
    (D_law_take : Dfn K mg "_law_take" s_law_take)
    (D_law_state : Dfn K mg "_law_state" s_law_state)
    (D_law_after : Dfn K mg "_law_after" s_law_after)
    (D_law_order_of : Dfn K mg "_law_order_of" s_law_order_of)
    (D_law_renamed : Dfn K mg "_law_renamed" s_law_renamed)
    (D_law_rows_of : Dfn K mg "_law_rows_of" s_law_rows_of)
    (D_law_keeps : Dfn K mg "_law_keeps" s_law_keeps)
    (D_law_kernel : Dfn K mg "_law_kernel" s_law_kernel)
    (D_law_refines : Dfn K mg "_law_refines" s_law_refines)
    (D_law_closed : Dfn K mg "_law_closed" s_law_closed)
    (D_law_of_maps : Dfn K mg "_law_of_maps" s_law_of_maps)
    (D_law_monogenic : Dfn K mg "_law_monogenic" s_law_monogenic)
    (D_law_triples : Dfn K mg "_law_triples" s_law_triples)
    (D_law_blocks : Dfn K mg "_law_blocks" s_law_blocks)
    (D_law_plain : Dfn K mg "_law_plain" s_law_plain)
    (D_law_extended : Dfn K mg "_law_extended" s_law_extended)
    (D_law_semigroup : Dfn K mg "_law_semigroup" s_law_semigroup)
    {fi fe f : Addr} {fdi fde fd : FuncData} (Fi : FunD K "__init__" "Semigroup.__init__" (defArgs s_Semigroup_init) (defBody s_Semigroup_init) (defScope s_Semigroup_init) [] [] fi fdi) (Mi : Mk K C fi) (Fe : FunD K "is_element" "Semigroup.is_element" (defArgs s_Semigroup_is_element) (defBody s_Semigroup_is_element) (defScope s_Semigroup_is_element) [] [] fe fde) (Me : Meth K C "is_element" fe) (F : FunD K "law" "law" (defArgs s_law) (defBody s_law) (defScope s_law) [] [] f fd) : FnOk P w K mg base CX0 10 f fd ["_law_script"] (spLaw K) := by
  have H_is_integer : Has P w K mg base "is_integer" ["value"] 1 (spInt) := h_is_integer D_is_integer T
  have H_is_item : Has P w K mg base "is_item" ["value", "n"] 2 (spItem) := h_is_item D_is_item T H_is_integer
  have H_is_equivalence : Has P w K mg base "is_equivalence" ["value", "n"] 2 (spEqv) := h_is_equivalence D_is_equivalence T H_is_integer
  have H_classes_of : Has P w K mg base "classes_of" ["pairs", "n"] 1 (spClasses) := h_classes_of D_classes_of T
  have H_merged : Has P w K mg base "merged" ["classes", "x", "y"] 1 (spMerged) := h_merged D_merged T
  have H_refines : Has P w K mg base "refines" ["a", "b"] 1 (spRefines) := h_refines D_refines T
  have H_joined : Has P w K mg base "joined" ["a", "b"] 2 (spJoined) := h_joined D_joined T H_classes_of
  have H_class_numbers : Has P w K mg base "class_numbers" ["classes"] 1 (spNumbers) := h_class_numbers D_class_numbers T
  have H_class_count : Has P w K mg base "class_count" ["classes"] 1 (spCount) := h_class_count D_class_count T
  have H_is_congruence : Has P w K mg base "is_congruence" ["s", "value"] 3 (spCong (C:=C)) := h_is_congruence D_is_congruence T S H_is_equivalence
  have H_is_associative : Has P w K mg base "is_associative" ["table"] 1 (spAssoc) := h_is_associative D_is_associative T
  have H_taken_table : Has P w K mg base "taken_table" ["table"] 3 spTaken := h_taken_table D_taken_table T H_is_item
  have H_init : IHas P w K mg base C ["self", "table"] 4 (spInit C) := h_init Fi Mi T S gM24 H_taken_table H_is_associative
  have H_is_element : MHas P w K mg base C "is_element" ["self", "value"] 3 (spElem C) := h_is_element Fe Me T S H_is_item
  have H_check_pairs : Has P w K mg base "check_pairs" ["s", "pairs"] 4 (spCheck (C)) := h_check_pairs D_check_pairs T S H_is_element
  have H_generated : Has P w K mg base "generated" ["s", "pairs"] 5 (spGen (C)) := h_generated D_generated T S H_check_pairs H_merged
  have H_quotient : Has P w K mg base "quotient" ["s", "classes"] 6 (spQuot (C)) := h_quotient D_quotient T S H_init H_is_congruence H_class_numbers
  have H_congruences : Has P w K mg base "congruences" ["s"] 6 (spCongs C) := h_congruences D_congruences T S gM1000 H_generated H_joined
  have H_moebius_numbers : Has P w K mg base "moebius_numbers" ["s"] 7 (spMoeb (C)) := h_moebius_numbers D_moebius_numbers T S H_congruences H_class_count H_refines
  have H_close : Has P w K mg base "close" ["s", "known"] 1 (spClose (C)) := h_close D_close T S
  have H_closing : Has P w K mg base "closing" ["s"] 2 (spClosing (C)) := h_closing D_closing T S H_close
  have H_extended : Has P w K mg base "extended" ["a", "b", "images", "step", "y", "unlike"] 1 (spExt (C)) := h_extended D_extended T S
  have H_walk : GHas P w K mg base "walk" ["a", "b", "unlike"] 4 (spWalk C) := h_walk D_walk T S H_closing H_extended
  have H_gathered : Has P w K mg base "gathered" ["a", "b", "unlike"] 5 (spGath C) := h_gathered D_gathered T gM50000 H_walk
  have H_count_homomorphisms : Has P w K mg base "count_homomorphisms" ["a", "b"] 6 (spHoms (C)) := h_count_homomorphisms D_count_homomorphisms T H_gathered
  have H_count_by_congruences : Has P w K mg base "count_by_congruences" ["a", "b"] 8 (spCbc (C)) := h_count_by_congruences D_count_by_congruences T H_congruences H_moebius_numbers H_quotient H_count_homomorphisms
  have H_l_take : Has P w K mg base "_law_take" ["_law_state_here", "_law_m"] 1 (spTake) := h_l_take D_law_take T
  have H_l_state : Has P w K mg base "_law_state" ["_law_script"] 1 (spStateK (K)) := h_l_state D_law_state T
  have H_l_after : Has P w K mg base "_law_after" ["_law_f", "_law_g"] 1 (spAfter) := h_l_after D_law_after T
  have H_l_order_of : Has P w K mg base "_law_order_of" ["_law_state_here", "_law_n"] 2 (spOrder) := h_l_order_of D_law_order_of T H_l_take
  have H_l_renamed : Has P w K mg base "_law_renamed" ["_law_table", "_law_order"] 1 (spRen) := h_l_renamed D_law_renamed T
  have H_l_rows_of : Has P w K mg base "_law_rows_of" ["_law_n", "_law_count"] 1 (spRows) := h_l_rows_of D_law_rows_of T
  have H_l_keeps : Has P w K mg base "_law_keeps" ["_law_one", "_law_two", "_law_images"] 1 (spKeeps7) := h_l_keeps D_law_keeps T
  have H_l_kernel : Has P w K mg base "_law_kernel" ["_law_images"] 1 (spKernel) := h_l_kernel D_law_kernel T
  have H_l_refines : Has P w K mg base "_law_refines" ["_law_c", "_law_d"] 1 (spLRef) := h_l_refines D_law_refines T
  have H_l_closed : Has P w K mg base "_law_closed" ["_law_maps"] 2 (spClosed) := h_l_closed D_law_closed T H_l_after
  have H_l_of_maps : Has P w K mg base "_law_of_maps" ["_law_state_here", "_law_most"] 3 (spTab) := h_l_of_maps D_law_of_maps T H_l_take H_l_after H_l_closed
  have H_l_monogenic : Has P w K mg base "_law_monogenic" ["_law_state_here", "_law_most"] 2 (spTab) := h_l_monogenic D_law_monogenic T H_l_take
  have H_l_triples : Has P w K mg base "_law_triples" ["_law_a", "_law_b", "_law_g", "_law_twist", "_law_holes", "_law_zero"] 1 (spTri) := h_l_triples D_law_triples T
  have H_l_blocks : Has P w K mg base "_law_blocks" ["_law_state_here", "_law_most"] 2 (spTab) := h_l_blocks D_law_blocks T H_l_take H_l_triples
  have H_l_plain : Has P w K mg base "_law_plain" ["_law_state_here", "_law_most"] 4 (spTab) := h_l_plain D_law_plain T H_l_take H_l_monogenic H_l_of_maps H_l_blocks
  have H_l_extended : Has P w K mg base "_law_extended" ["_law_state_here", "_law_table", "_law_most"] 2 (spExtd) := h_l_extended D_law_extended T H_l_take
  have H_l_semigroup : Has P w K mg base "_law_semigroup" ["_law_state_here", "_law_most"] 5 (spTab) := h_l_semigroup D_law_semigroup T H_l_plain H_l_extended H_l_order_of H_l_renamed
  exact h_law F T S H_init H_l_state H_l_semigroup H_l_take H_l_order_of H_l_renamed H_l_rows_of H_l_keeps H_l_kernel H_l_refines H_congruences H_quotient H_count_homomorphisms H_count_by_congruences
end
theorem facts {P : Program} {w : World} {K : PySem.W.Frag} {h : Heap} {mg : Str → Option Value} {f : Addr} (X : K.In h) (G : h.Ns mainGlobals mg) (hfa : mg ("law" : Str) = some (.ref f)) (c : He.SaysD faL fnL K) :
    ∃ fd : FuncData, (∀ (s : Shared) (v : Value), BindsTo s fd ⟨[v], []⟩ [("_law_script", v)]) ∧ ∀ base : Heap, K.In base → base.Ns mainGlobals mg → FnOk P w K mg base CX0 10 f fd ["_law_script"] (spLaw K) := by
  have T : Bl mg := ⟨He.free_ok X G (c.fact 51 (f := .free "isinstance") rfl), He.free_ok X G (c.fact 52 (f := .free "int") rfl), He.free_ok X G (c.fact 53 (f := .free "bool") rfl), He.free_ok X G (c.fact 54 (f := .free "tuple") rfl), He.free_ok X G (c.fact 55 (f := .free "list") rfl), He.free_ok X G (c.fact 56 (f := .free "len") rfl), He.free_ok X G (c.fact 57 (f := .free "range") rfl), He.free_ok X G (c.fact 58 (f := .free "min") rfl), He.free_ok X G (c.fact 59 (f := .free "max") rfl), He.free_ok X G (c.fact 60 (f := .free "enumerate") rfl), He.free_ok X G (c.fact 61 (f := .free "all") rfl), He.free_ok X G (c.fact 62 (f := .free "sorted") rfl), He.free_ok X G (c.fact 63 (f := .free "sum") rfl), He.free_ok X G (c.fact 64 (f := .free "set") rfl), He.free_ok X G (c.fact 65 (f := .free "zip") rfl), He.free_ok X G (c.fact 66 (f := .free "abs") rfl)⟩
  have S : SemF K mg (He.ga K "Semigroup") := ⟨He.glo_ok X G (c.fact 42 (f := .glo "Semigroup") rfl), He.cls_ok (c.fact 43 (f := .cls "Semigroup") rfl), He.noat_ok (c.fact 45 (f := .noat "Semigroup" "n") rfl), He.noat_ok (c.fact 46 (f := .noat "Semigroup" "table") rfl)⟩
  obtain ⟨_, g1⟩ := He.int_ok X G (c.fact 48 (f := .int "MOST_semigroup" 24) rfl)
  obtain ⟨_, g2⟩ := He.int_ok X G (c.fact 49 (f := .int "MOST_CONGRUENCES" 1000) rfl)
  obtain ⟨_, g3⟩ := He.int_ok X G (c.fact 50 (f := .int "MOST_homs" 50000) rfl)
  have D_is_integer : Dfn K mg "is_integer" s_is_integer := let ⟨fd, F⟩ := c.def_ 0 (d := d_is_integer) rfl; ⟨_, fd, F, He.glo_ok X G (c.fact 0 (f := .glo "is_integer") rfl)⟩
  have D_is_item : Dfn K mg "is_item" s_is_item := let ⟨fd, F⟩ := c.def_ 5 (d := d_is_item) rfl; ⟨_, fd, F, He.glo_ok X G (c.fact 5 (f := .glo "is_item") rfl)⟩
  have D_is_equivalence : Dfn K mg "is_equivalence" s_is_equivalence := let ⟨fd, F⟩ := c.def_ 1 (d := d_is_equivalence) rfl; ⟨_, fd, F, He.glo_ok X G (c.fact 1 (f := .glo "is_equivalence") rfl)⟩
  have D_classes_of : Dfn K mg "classes_of" s_classes_of := let ⟨fd, F⟩ := c.def_ 2 (d := d_classes_of) rfl; ⟨_, fd, F, He.glo_ok X G (c.fact 2 (f := .glo "classes_of") rfl)⟩
  have D_merged : Dfn K mg "merged" s_merged := let ⟨fd, F⟩ := c.def_ 12 (d := d_merged) rfl; ⟨_, fd, F, He.glo_ok X G (c.fact 10 (f := .glo "merged") rfl)⟩
  have D_refines : Dfn K mg "refines" s_refines := let ⟨fd, F⟩ := c.def_ 4 (d := d_refines) rfl; ⟨_, fd, F, He.glo_ok X G (c.fact 4 (f := .glo "refines") rfl)⟩
  have D_joined : Dfn K mg "joined" s_joined := let ⟨fd, F⟩ := c.def_ 3 (d := d_joined) rfl; ⟨_, fd, F, He.glo_ok X G (c.fact 3 (f := .glo "joined") rfl)⟩
  have D_class_numbers : Dfn K mg "class_numbers" s_class_numbers := let ⟨fd, F⟩ := c.def_ 14 (d := d_class_numbers) rfl; ⟨_, fd, F, He.glo_ok X G (c.fact 12 (f := .glo "class_numbers") rfl)⟩
  have D_class_count : Dfn K mg "class_count" s_class_count := let ⟨fd, F⟩ := c.def_ 17 (d := d_class_count) rfl; ⟨_, fd, F, He.glo_ok X G (c.fact 15 (f := .glo "class_count") rfl)⟩
  have D_is_congruence : Dfn K mg "is_congruence" s_is_congruence := let ⟨fd, F⟩ := c.def_ 10 (d := d_is_congruence) rfl; ⟨_, fd, F, He.glo_ok X G (c.fact 8 (f := .glo "is_congruence") rfl)⟩
  have D_is_associative : Dfn K mg "is_associative" s_is_associative := let ⟨fd, F⟩ := c.def_ 7 (d := d_is_associative) rfl; ⟨_, fd, F, He.glo_ok X G (c.fact 7 (f := .glo "is_associative") rfl)⟩
  have D_taken_table : Dfn K mg "taken_table" s_taken_table := let ⟨fd, F⟩ := c.def_ 6 (d := d_taken_table) rfl; ⟨_, fd, F, He.glo_ok X G (c.fact 6 (f := .glo "taken_table") rfl)⟩
  have D_check_pairs : Dfn K mg "check_pairs" s_check_pairs := let ⟨fd, F⟩ := c.def_ 11 (d := d_check_pairs) rfl; ⟨_, fd, F, He.glo_ok X G (c.fact 9 (f := .glo "check_pairs") rfl)⟩
  have D_generated : Dfn K mg "generated" s_generated := let ⟨fd, F⟩ := c.def_ 13 (d := d_generated) rfl; ⟨_, fd, F, He.glo_ok X G (c.fact 11 (f := .glo "generated") rfl)⟩
  have D_quotient : Dfn K mg "quotient" s_quotient := let ⟨fd, F⟩ := c.def_ 15 (d := d_quotient) rfl; ⟨_, fd, F, He.glo_ok X G (c.fact 13 (f := .glo "quotient") rfl)⟩
  have D_congruences : Dfn K mg "congruences" s_congruences := let ⟨fd, F⟩ := c.def_ 16 (d := d_congruences) rfl; ⟨_, fd, F, He.glo_ok X G (c.fact 14 (f := .glo "congruences") rfl)⟩
  have D_moebius_numbers : Dfn K mg "moebius_numbers" s_moebius_numbers := let ⟨fd, F⟩ := c.def_ 18 (d := d_moebius_numbers) rfl; ⟨_, fd, F, He.glo_ok X G (c.fact 16 (f := .glo "moebius_numbers") rfl)⟩
  have D_close : Dfn K mg "close" s_close := let ⟨fd, F⟩ := c.def_ 20 (d := d_close) rfl; ⟨_, fd, F, He.glo_ok X G (c.fact 18 (f := .glo "close") rfl)⟩
  have D_closing : Dfn K mg "closing" s_closing := let ⟨fd, F⟩ := c.def_ 19 (d := d_closing) rfl; ⟨_, fd, F, He.glo_ok X G (c.fact 17 (f := .glo "closing") rfl)⟩
  have D_extended : Dfn K mg "extended" s_extended := let ⟨fd, F⟩ := c.def_ 21 (d := d_extended) rfl; ⟨_, fd, F, He.glo_ok X G (c.fact 19 (f := .glo "extended") rfl)⟩
  have D_walk : Dfn K mg "walk" s_walk := let ⟨fd, F⟩ := c.def_ 22 (d := d_walk) rfl; ⟨_, fd, F, He.glo_ok X G (c.fact 20 (f := .glo "walk") rfl)⟩
  have D_gathered : Dfn K mg "gathered" s_gathered := let ⟨fd, F⟩ := c.def_ 23 (d := d_gathered) rfl; ⟨_, fd, F, He.glo_ok X G (c.fact 21 (f := .glo "gathered") rfl)⟩
  have D_count_homomorphisms : Dfn K mg "count_homomorphisms" s_count_homomorphisms := let ⟨fd, F⟩ := c.def_ 24 (d := d_count_homomorphisms) rfl; ⟨_, fd, F, He.glo_ok X G (c.fact 22 (f := .glo "count_homomorphisms") rfl)⟩
  have D_count_by_congruences : Dfn K mg "count_by_congruences" s_count_by_congruences := let ⟨fd, F⟩ := c.def_ 25 (d := d_count_by_congruences) rfl; ⟨_, fd, F, He.glo_ok X G (c.fact 23 (f := .glo "count_by_congruences") rfl)⟩
  have D_law_take : Dfn K mg "_law_take" s_law_take := let ⟨fd, F⟩ := c.def_ 27 (d := d_law_take) rfl; ⟨_, fd, F, He.glo_ok X G (c.fact 25 (f := .glo "_law_take") rfl)⟩
  have D_law_state : Dfn K mg "_law_state" s_law_state := let ⟨fd, F⟩ := c.def_ 26 (d := d_law_state) rfl; ⟨_, fd, F, He.glo_ok X G (c.fact 24 (f := .glo "_law_state") rfl)⟩
  have D_law_after : Dfn K mg "_law_after" s_law_after := let ⟨fd, F⟩ := c.def_ 30 (d := d_law_after) rfl; ⟨_, fd, F, He.glo_ok X G (c.fact 28 (f := .glo "_law_after") rfl)⟩
  have D_law_order_of : Dfn K mg "_law_order_of" s_law_order_of := let ⟨fd, F⟩ := c.def_ 28 (d := d_law_order_of) rfl; ⟨_, fd, F, He.glo_ok X G (c.fact 26 (f := .glo "_law_order_of") rfl)⟩
  have D_law_renamed : Dfn K mg "_law_renamed" s_law_renamed := let ⟨fd, F⟩ := c.def_ 29 (d := d_law_renamed) rfl; ⟨_, fd, F, He.glo_ok X G (c.fact 27 (f := .glo "_law_renamed") rfl)⟩
  have D_law_rows_of : Dfn K mg "_law_rows_of" s_law_rows_of := let ⟨fd, F⟩ := c.def_ 39 (d := d_law_rows_of) rfl; ⟨_, fd, F, He.glo_ok X G (c.fact 37 (f := .glo "_law_rows_of") rfl)⟩
  have D_law_keeps : Dfn K mg "_law_keeps" s_law_keeps := let ⟨fd, F⟩ := c.def_ 40 (d := d_law_keeps) rfl; ⟨_, fd, F, He.glo_ok X G (c.fact 38 (f := .glo "_law_keeps") rfl)⟩
  have D_law_kernel : Dfn K mg "_law_kernel" s_law_kernel := let ⟨fd, F⟩ := c.def_ 41 (d := d_law_kernel) rfl; ⟨_, fd, F, He.glo_ok X G (c.fact 39 (f := .glo "_law_kernel") rfl)⟩
  have D_law_refines : Dfn K mg "_law_refines" s_law_refines := let ⟨fd, F⟩ := c.def_ 42 (d := d_law_refines) rfl; ⟨_, fd, F, He.glo_ok X G (c.fact 40 (f := .glo "_law_refines") rfl)⟩
  have D_law_closed : Dfn K mg "_law_closed" s_law_closed := let ⟨fd, F⟩ := c.def_ 31 (d := d_law_closed) rfl; ⟨_, fd, F, He.glo_ok X G (c.fact 29 (f := .glo "_law_closed") rfl)⟩
  have D_law_of_maps : Dfn K mg "_law_of_maps" s_law_of_maps := let ⟨fd, F⟩ := c.def_ 32 (d := d_law_of_maps) rfl; ⟨_, fd, F, He.glo_ok X G (c.fact 30 (f := .glo "_law_of_maps") rfl)⟩
  have D_law_monogenic : Dfn K mg "_law_monogenic" s_law_monogenic := let ⟨fd, F⟩ := c.def_ 33 (d := d_law_monogenic) rfl; ⟨_, fd, F, He.glo_ok X G (c.fact 31 (f := .glo "_law_monogenic") rfl)⟩
  have D_law_triples : Dfn K mg "_law_triples" s_law_triples := let ⟨fd, F⟩ := c.def_ 34 (d := d_law_triples) rfl; ⟨_, fd, F, He.glo_ok X G (c.fact 32 (f := .glo "_law_triples") rfl)⟩
  have D_law_blocks : Dfn K mg "_law_blocks" s_law_blocks := let ⟨fd, F⟩ := c.def_ 35 (d := d_law_blocks) rfl; ⟨_, fd, F, He.glo_ok X G (c.fact 33 (f := .glo "_law_blocks") rfl)⟩
  have D_law_plain : Dfn K mg "_law_plain" s_law_plain := let ⟨fd, F⟩ := c.def_ 36 (d := d_law_plain) rfl; ⟨_, fd, F, He.glo_ok X G (c.fact 34 (f := .glo "_law_plain") rfl)⟩
  have D_law_extended : Dfn K mg "_law_extended" s_law_extended := let ⟨fd, F⟩ := c.def_ 37 (d := d_law_extended) rfl; ⟨_, fd, F, He.glo_ok X G (c.fact 35 (f := .glo "_law_extended") rfl)⟩
  have D_law_semigroup : Dfn K mg "_law_semigroup" s_law_semigroup := let ⟨fd, F⟩ := c.def_ 38 (d := d_law_semigroup) rfl; ⟨_, fd, F, He.glo_ok X G (c.fact 36 (f := .glo "_law_semigroup") rfl)⟩
  obtain ⟨fdi, Fi⟩ := c.def_ 8 (d := d_Semigroup_init) rfl
  obtain ⟨fde, Fe⟩ := c.def_ 9 (d := d_Semigroup_is_element) rfl
  obtain ⟨fd, F⟩ := c.def_ 43 (d := d_law) rfl
  have Mi := He.mkr_ok (c.fact 44 (f := .mkr "Semigroup") rfl)
  have Me := He.meth_ok (c.fact 47 (f := .meth "Semigroup" "is_element") rfl)
  have e := hfa.symm.trans (He.glo_ok X G (c.fact 41 (f := .glo "law") rfl))
  cases e
  have b := FunD.bindsA (ps := ["_law_script"]) F fun _ _ _ _ _ _ us hl => match us, hl with | [_], _ => rfl
  exact ⟨fd, fun s v => b s [v] rfl, fun base _ _ => law_ok T S g1 g2 g3 D_is_integer D_is_item D_is_equivalence D_classes_of D_merged D_refines D_joined D_class_numbers D_class_count D_is_congruence D_is_associative D_taken_table D_check_pairs D_generated D_quotient D_congruences D_moebius_numbers D_close D_closing D_extended D_walk D_gathered D_count_homomorphisms D_count_by_congruences D_law_take D_law_state D_law_after D_law_order_of D_law_renamed D_law_rows_of D_law_keeps D_law_kernel D_law_refines D_law_closed D_law_of_maps D_law_monogenic D_law_triples D_law_blocks D_law_plain D_law_extended D_law_semigroup Fi Mi Fe Me F⟩
end W7
end
set_option Elab.async false
set_option linter.all false
set_option maxRecDepth 100000
set_option maxHeartbeats 0
open PySem PySem.W PySem.Calls PyProof.Rows
theorem PySem.Challenge.cw_reesblocks_k37_whole_counts_by_congruenc_holds : PySem.Challenge.rw_reesblocks_k37_whole_counts_by_congruenc.Holds := by
  w_on; o_law
  refine HandSHeadRun.head_any (r := OpenLaw.row PySem.Challenge.rw_reesblocks_k37_whole_counts_by_congruenc) (q := view (OpenLaw.row PySem.Challenge.rw_reesblocks_k37_whole_counts_by_congruenc).prog [56]) (H := K37.hk) (ob := K37.ob) (M := 3000) (loose := K37.nmL) (d := HandSHeadRun.topDef (OpenLaw.row PySem.Challenge.rw_reesblocks_k37_whole_counts_by_congruenc).prog 56) (kwd := []) K37.ob_eq
    (by kernel_rfl) (fun s => by kernel_rfl) K37.headRun (by kernel_rfl) (by kernel_rfl) (by kernel_rfl) (by rfl) (by first | assumption | decide +kernel) (by decide +kernel) ⟨rfl, rfl, rfl, rfl, rfl, by decide +kernel⟩ ?hw ?hc
  case hw => w_witness2
  case hc =>
    refine L2.walk_ofE (l := PySem.Challenge.rw_reesblocks_k37_whole_counts_by_congruenc) (n := 63) (k := 10) (x := "_law_script") (CX := L2.CX0) rfl (by decide) (by kernel_rfl) ⟨rfl, by decide, by decide⟩ ?F (fun _ _ _ _ z => z)
    intro w mg fa h Y G hmg0
    obtain ⟨K, KX, c⟩ := Y
    have hmg : mg ("law" : PySem.Str) = some (.ref fa) := by
      have e : (HandSHeadRun.topDef (OpenLaw.row PySem.Challenge.rw_reesblocks_k37_whole_counts_by_congruenc).prog 56).name = ("law" : PySem.Str) := by kernel_rfl
      rw [← e]
      exact hmg0
    obtain ⟨fd, hb, hF⟩ := W7.facts (P := (PySem.Challenge.rw_reesblocks_k37_whole_counts_by_congruenc).prog) (w := w) KX G hmg c
    exact ⟨K, fd, W7.spLaw K, KX, hb, fun H a ns hl _ hS => ⟨a, ns, rfl, hS, fun _ => rfl⟩, hF⟩
