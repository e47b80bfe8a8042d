import PyProof.Rows.All
import Wide.All
import OpenK.AllK
import Wide.FinOn
import KE.KStateDown
import Lean
import HandS.ForMost
import HandS.Exc
import HandS.ExcOwn
import HandS.ExcIs
import HandS.WordsExc
import HandS.Defaults
import HandS.Head0
import HandS.Head1
import HandS.Head2
import HandS.HeadEnd
import HandS.HeadHook1
import HandS.HeadHook2
import HandS.HeadHook3
import HandS.HeadHook4
import PySem.Challenge.RW_cherrystone_k67_whole_refuges_and_widths
import HandS.Deep
import HandS.Conv
import HandS.TupLe
import HandS.TupAny
import HandS.IsInst
import HandS.SortInts
import HandS.SetKeys
import KE.KDictKeyed
import KE.SortData
import KE.DataCmp
import PyProof.TupleOfSeq
import HandS.Evl
import HandS.Style
set_option Elab.async false
set_option linter.all false
set_option maxRecDepth 100000
set_option maxHeartbeats 0
namespace K67
open PySem PySem.Spec PyProof.Rows L2
def top (i : Nat) : Stmt := PySem.Challenge.pw_cherrystone_k67_whole_refuges_and_widths.main.body.getD i (.Pass ⟨0, 0, 0, 0⟩)
def dG (x : Str) (i : Nat) : He.DefD := ⟨(x, none), x, x, defArgs (top i), defBody (top i), defScope (top i), [], []⟩
def fn : List He.DefD := [
  dG "is_integer" 8, dG "is_index" 9, dG "check_edges" 11, dG "check_number" 15, dG "reached" 16, dG "parts_without" 17,
  dG "positions_of" 19, dG "is_position" 20, dG "holds" 21, dG "table_of" 22, dG "check_refuge" 23, dG "largest_refuge" 24,
  dG "is_refuge" 28, dG "greatest_refuge" 29, dG "_law_mixed" 31, dG "_law_numbers" 32, dG "_law_draw" 33, dG "_law_equal" 34,
  dG "_law_all_equal" 35, dG "_law_pairs" 36, dG "_law_order" 37, dG "_law_edges" 38, dG "_law_near" 39, dG "_law_components" 40,
  dG "_law_positions" 41, dG "_law_inside" 42, dG "_law_stays" 43, dG "_law_by_searched" 44, dG "_law_greatest" 45,
  dG "_law_later" 46, dG "_law_width" 47, dG "_law_too_large" 48, dG "_law_told_right" 49, dG "_law_great_right" 50, dG "law" 51,
  ⟨("Graph", some "__init__"), "__init__", "Graph.__init__", defArgs (inClass (top 12) 0), defBody (inClass (top 12) 0), defScope (inClass (top 12) 0), [], []⟩]
def fa : List He.Fa := [
  .glo "is_integer", .glo "is_index", .glo "check_edges", .glo "check_number", .glo "reached", .glo "parts_without", .glo "positions_of",
  .glo "is_position", .glo "holds", .glo "table_of", .glo "check_refuge", .glo "largest_refuge", .glo "is_refuge", .glo "greatest_refuge",
  .glo "_law_mixed", .glo "_law_numbers", .glo "_law_draw", .glo "_law_equal", .glo "_law_all_equal", .glo "_law_pairs", .glo "_law_order",
  .glo "_law_edges", .glo "_law_near", .glo "_law_components", .glo "_law_positions", .glo "_law_inside", .glo "_law_stays",
  .glo "_law_by_searched", .glo "_law_greatest", .glo "_law_later", .glo "_law_width", .glo "_law_too_large", .glo "_law_told_right",
  .glo "_law_great_right", .glo "law", .glo "Graph", .glo "TooLarge", .glo "BadArgument", .glo "BadGraph",
  .free "isinstance", .free "int", .free "bool", .free "list", .free "tuple", .free "len", .free "range", .free "sorted", .free "min", .free "max", .free "all", .free "str",
  .int "MOST" 40, .int "SEARCHERS" 9, .int "SMALL" 8,
  .cls "Graph", .mkr "Graph", .noat "Graph" "nodes", .noat "Graph" "edges", .noat "Graph" "links",
  .exc "TooLarge", .exm "TooLarge" "TooLarge" true]
/-- what isinstance asks of TooLarge's class -/
def ex (K : PySem.W.Frag) : Bool :=
  He.eqO (PySem.W.findIn K (.ref (He.ga K "TooLarge")) "__getattribute__") (some (some (.builtin "BaseException.__getattribute__"))) &&
  (He.eqO (PySem.W.findIn K (.ref (He.ga K "TooLarge")) "__getattr__") (some none) &&
  (decide (PySem.W.subIn K (.ref (He.ga K "TooLarge")) (.type "BaseException") = some true) &&
  (PySem.W.hasDictIn K (He.ga K "TooLarge") &&
  (He.eqO (PySem.W.findIn K (.ref (He.ga K "TooLarge")) "__class__") (some (some (.builtin "object.__class__"))) &&
  (He.eqO (PySem.W.specialIn K (.builtin "object.__class__") "__get__") (some (some (.builtin "getset_descriptor.__get__"))) &&
  (decide (PySem.W.takesIn K (.builtin "object.__class__") = some true) &&
  (decide (PySem.W.mroIn K (He.ga K "TooLarge") (.type "object") = some true) &&
  decide (PySem.W.kitOne K (.ref (He.ga K "TooLarge")) (.ref (He.ga K "BadArgument")) = some false))))))))
abbrev R : PySem.W.OpenRow := PySem.W.OpenLaw.row PySem.Challenge.rw_cherrystone_k67_whole_refuges_and_widths
abbrev hk : PySem.W.Hook := He.hookX 6 fa fn [] [] ex
def ob (s : PySem.W.SharedT) : He.AlX := He.obsX 6 fa fn [] [] ex (HandSHeadRun.getT s)
theorem ob_eq (s : PySem.W.SharedT) : ob s = hk.obs s.abs := He.obsX_eq (HandSHeadRun.getT_eq s)
def nm1 : List Str := ["_wall", "CherrystoneError", "BadGraph", "BadArgument", "TooLarge", "MOST", "is_integer", "is_index", "is_rising", "check_edges", "Graph", "is_list", "check_list", "check_number", "reached", "parts_without", "positions_of", "is_position", "holds", "table_of", "check_refuge", "largest_refuge", "SEARCHERS", "SMALL", "is_refuge", "greatest_refuge"]
def nm2 : List Str := ["_law_mixed", "_law_numbers", "_law_draw", "_law_equal", "_law_all_equal", "_law_pairs", "_law_order", "_law_edges", "_law_near", "_law_components", "_law_positions", "_law_inside", "_law_stays", "_law_by_searched", "_law_greatest", "_law_later", "_law_width", "_law_too_large", "_law_told_right", "_law_great_right"]
def nms : List Str := nm1 ++ nm2
theorem run (w : World) : HandSHeadRun.RunEq R (PySem.W.view R.prog [51]) hk ob 4000 nms w := by
  intro os
  kernel_rfl
end K67
set_option linter.all false
namespace K67M
/-! ### graphs, ways that avoid nodes, components -/
abbrev Gr := Nat → Nat → Bool
abbrev Pos := List Nat × List Nat
structure Ok (n : Nat) (G : Gr) : Prop where
  lt : ∀ {u v}, G u v = true → u < n ∧ v < n
  sym : ∀ {u v}, G u v = true → G v u = true
  irr : ∀ {u}, G u u = false
inductive Reach (G : Gr) (X : List Nat) (s : Nat) : Nat → Prop
  | refl : Reach G X s s
  | step {v w : Nat} : Reach G X s v → G v w = true → w ∉ X → Reach G X s w
section
variable {n : Nat} {G : Gr} {X Y : List Nat} {s t v w : Nat}
theorem Reach.trans (a : Reach G X s t) (b : Reach G X t v) : Reach G X s v := by
  induction b with
  | refl => exact a
  | step _ g h ih => exact .step ih g h
theorem Reach.out (h : s ∉ X) (r : Reach G X s v) : v ∉ X := by
  cases r with
  | refl => exact h
  | step _ _ q => exact q
theorem Reach.symm (o : Ok n G) (h : s ∉ X) (r : Reach G X s v) : Reach G X v s := by
  induction r with
  | refl => exact .refl
  | step r g q ih => exact (Reach.step .refl (o.sym g) (r.out h)).trans ih
theorem Reach.lt (o : Ok n G) (h : s < n) (r : Reach G X s v) : v < n := by
  cases r with
  | refl => exact h
  | step _ g _ => exact (o.lt g).2
theorem Reach.mono (h : ∀ x ∈ Y, x ∈ X) (r : Reach G X s v) : Reach G Y s v := by
  induction r with
  | refl => exact .refl
  | step _ g q ih => exact .step ih g fun z => q (h _ z)
end
noncomputable def comp (G : Gr) (n : Nat) (X : List Nat) (s : Nat) : List Nat :=
  (List.range n).filter fun v => @decide (Reach G X s v) (Classical.propDecidable _)
theorem sorted_ext : ∀ {l m : List Nat}, l.Pairwise (· < ·) → m.Pairwise (· < ·) → (∀ v, v ∈ l ↔ v ∈ m) → l = m
  | [], [], _, _, _ => rfl
  | [], b :: m, _, _, h => absurd ((h b).mpr List.mem_cons_self) (by simp)
  | a :: l, [], _, _, h => absurd ((h a).mp List.mem_cons_self) (by simp)
  | a :: l, b :: m, hl, hm, h => by
    rw [List.pairwise_cons] at hl hm
    have e : a = b := by
      have h1 := (h a).mp List.mem_cons_self
      have h2 := (h b).mpr List.mem_cons_self
      rcases List.mem_cons.mp h1 with h1 | h1
      · exact h1
      · rcases List.mem_cons.mp h2 with h2 | h2
        · exact h2.symm
        · have := hm.1 a h1
          have := hl.1 b h2
          omega
    subst e
    rw [sorted_ext hl.2 hm.2 fun v => ?_]
    constructor
    · intro q
      rcases List.mem_cons.mp ((h v).mp (List.mem_cons_of_mem _ q)) with z | z
      · have := hl.1 v q
        omega
      · exact z
    · intro q
      rcases List.mem_cons.mp ((h v).mpr (List.mem_cons_of_mem _ q)) with z | z
      · have := hm.1 v q
        omega
      · exact z
section
variable {n : Nat} {G : Gr} {X Y : List Nat} {s t v w : Nat}
theorem mem_comp (o : Ok n G) (h : s < n) : v ∈ comp G n X s ↔ Reach G X s v := by
  unfold comp
  rw [List.mem_filter]
  simp only [decide_eq_true_eq, List.mem_range]
  exact ⟨fun z => z.2, fun z => ⟨z.lt o h, z⟩⟩
theorem comp_sorted : (comp G n X s).Pairwise (· < ·) := List.pairwise_lt_range.filter _
theorem comp_lt (h : v ∈ comp G n X s) : v < n := List.mem_range.mp (List.mem_filter.mp h).1
theorem comp_len : (comp G n X s).length ≤ n := by
  have := List.length_filter_le (fun v => @decide (Reach G X s v) (Classical.propDecidable _)) (List.range n)
  rw [List.length_range] at this
  exact this
theorem self_comp (o : Ok n G) (h : s < n) : s ∈ comp G n X s := (mem_comp o h).mpr .refl
theorem comp_eq (o : Ok n G) (hs : s < n) (hx : s ∉ X) (h : Reach G X s t) : comp G n X s = comp G n X t :=
  sorted_ext comp_sorted comp_sorted fun v => by
    rw [mem_comp o hs, mem_comp o (h.lt o hs)]
    exact ⟨fun q => (h.symm o hx).trans q, fun q => h.trans q⟩
end
/-! ### sorting, leaving out -/
def insS (a : Nat) : List Nat → List Nat
  | [] => [a]
  | b :: l => if a ≤ b then a :: b :: l else b :: insS a l
def srt : List Nat → List Nat
  | [] => []
  | a :: l => insS a (srt l)
theorem insS_perm (a : Nat) : ∀ l, (insS a l).Perm (a :: l)
  | [] => .refl _
  | b :: l => by
    unfold insS
    split
    · exact .refl _
    · exact ((insS_perm a l).cons b).trans (.swap _ _ _)
theorem srt_perm : ∀ l, (srt l).Perm l
  | [] => .refl _
  | a :: l => (insS_perm a _).trans ((srt_perm l).cons a)
theorem insS_sorted (a : Nat) : ∀ {l}, l.Pairwise (· ≤ ·) → (insS a l).Pairwise (· ≤ ·)
  | [], _ => List.pairwise_singleton _ _
  | b :: l, h => by
    unfold insS
    rw [List.pairwise_cons] at h
    split
    · rename_i hab
      refine List.pairwise_cons.mpr ⟨fun x hx => ?_, List.pairwise_cons.mpr h⟩
      rcases List.mem_cons.mp hx with e | hx
      · omega
      · have := h.1 x hx
        omega
    · refine List.pairwise_cons.mpr ⟨fun x hx => ?_, insS_sorted a h.2⟩
      rcases List.mem_cons.mp ((insS_perm a l).mem_iff.mp hx) with e | hx
      · omega
      · exact h.1 x hx
theorem srt_sorted : ∀ l, (srt l).Pairwise (· ≤ ·)
  | [] => List.Pairwise.nil
  | a :: l => insS_sorted a (srt_sorted l)
theorem perm_sorted {α : Type} {r : α → α → Prop} (anti : ∀ a b, r a b → r b a → a = b) : ∀ {l m : List α}, l.Perm m → l.Pairwise r → m.Pairwise r → l = m
  | [], m, p, _, _ => (List.nil_perm.mp p).symm
  | a :: l, [], p, _, _ => absurd p.symm (by intro q; have := q.length_eq; simp at this)
  | a :: l, b :: m, p, hl, hm => by
    rw [List.pairwise_cons] at hl hm
    have e : a = b := by
      have h1 := p.mem_iff.mp (List.mem_cons_self (a := a) (l := l))
      have h2 := p.mem_iff.mpr (List.mem_cons_self (a := b) (l := m))
      rcases List.mem_cons.mp h1 with h1 | h1
      · exact h1
      · rcases List.mem_cons.mp h2 with h2 | h2
        · exact h2.symm
        · exact anti _ _ (hl.1 b h2) (hm.1 a h1)
    subst e
    rw [perm_sorted anti p.cons_inv hl.2 hm.2]
theorem srt_uniq {l m : List Nat} (p : m.Perm l) (h : m.Pairwise (· ≤ ·)) : m = srt l :=
  perm_sorted (fun _ _ a b => Nat.le_antisymm a b) (p.trans (srt_perm l).symm) h (srt_sorted l)
theorem lt_of_le_nodup {l : List Nat} (h : l.Pairwise (· ≤ ·)) (d : l.Nodup) : l.Pairwise (· < ·) := by
  refine (h.and d).imp fun {a b} q => ?_
  have := q.1
  have := q.2
  omega
theorem nodup_of_lt {l : List Nat} (h : l.Pairwise (· < ·)) : l.Nodup := h.imp fun {a b} q => Nat.ne_of_lt q
/-- X with v, X without v -/
def ins (v : Nat) (X : List Nat) : List Nat := srt (X ++ [v])
def del (v : Nat) (X : List Nat) : List Nat := X.filter fun u => !decide (u = v)
section
variable {X : List Nat} {u v : Nat}
theorem mem_ins : u ∈ ins v X ↔ u = v ∨ u ∈ X := by
  unfold ins
  rw [(srt_perm _).mem_iff, List.mem_append, List.mem_singleton]
  exact Or.comm
theorem ins_len : (ins v X).length = X.length + 1 := by
  unfold ins
  rw [(srt_perm _).length_eq, List.length_append]
  rfl
theorem ins_sorted (h : X.Pairwise (· < ·)) (hv : v ∉ X) : (ins v X).Pairwise (· < ·) := by
  refine lt_of_le_nodup (srt_sorted _) ((srt_perm _).nodup_iff.mpr ?_)
  rw [List.nodup_append]
  refine ⟨nodup_of_lt h, by simp, fun a ha b hb => ?_⟩
  rw [List.mem_singleton] at hb
  subst hb
  exact fun e => hv (e ▸ ha)
theorem mem_del : u ∈ del v X ↔ u ∈ X ∧ u ≠ v := by
  unfold del
  rw [List.mem_filter]
  simp
theorem del_sorted (h : X.Pairwise (· < ·)) : (del v X).Pairwise (· < ·) := h.filter _
theorem del_len_le : (del v X).length ≤ X.length := List.length_filter_le _ _
theorem del_len_lt (h : v ∈ X) : (del v X).length < X.length := by
  unfold del
  refine Nat.lt_of_le_of_ne (List.length_filter_le _ _) fun e => ?_
  have := List.length_filter_eq_length_iff.mp e v h
  simp at this
end
/-! ### positions, refuges -/
structure IsPos (G : Gr) (n k : Nat) (p : Pos) : Prop where
  srt : p.1.Pairwise (· < ·)
  lt : ∀ v ∈ p.1, v < n
  len : p.1.length ≤ k
  ex : ∃ s, s < n ∧ s ∉ p.1 ∧ p.2 = comp G n p.1 s
def Holds (n k : Nat) (R : Pos → Prop) (p : Pos) : Prop :=
  (∀ v ∈ p.1, ∃ D, R (del v p.1, D) ∧ ∀ u ∈ p.2, u ∈ D) ∧
  (p.1.length = k ∨ ∀ v, v < n → v ∉ p.1 → ∃ D, R (ins v p.1, D) ∧ ∀ u ∈ D, u ∈ p.2)
def Refuge (G : Gr) (n k : Nat) (R : Pos → Prop) : Prop := ∀ p, R p → IsPos G n k p ∧ Holds n k R p
/-- the greatest refuge -/
def Gf (G : Gr) (n k : Nat) (p : Pos) : Prop := ∃ R, Refuge G n k R ∧ R p
section
variable {n k : Nat} {G : Gr} {R S : Pos → Prop} {p : Pos}
theorem Holds.mono (h : ∀ q, R q → S q) (x : Holds n k R p) : Holds n k S p := by
  refine ⟨fun v hv => ?_, x.2.imp id fun y v h1 h2 => ?_⟩
  · obtain ⟨D, a, b⟩ := x.1 v hv
    exact ⟨D, h _ a, b⟩
  · obtain ⟨D, a, b⟩ := y v h1 h2
    exact ⟨D, h _ a, b⟩
theorem gf_refuge : Refuge G n k (Gf G n k) := fun p ⟨R, hR, hp⟩ =>
  ⟨(hR p hp).1, (hR p hp).2.mono fun q hq => ⟨R, hR, hq⟩⟩
end
/-! ### taking nodes away one by one: widths -/
/-- from v over nodes of the mask S -/
inductive Via (G : Gr) (S v : Nat) : Nat → Prop
  | nb {u : Nat} : G v u = true → Via G S v u
  | step {u w : Nat} : Via G S v u → S.testBit u = true → G u w = true → Via G S v w
noncomputable def qs (G : Gr) (n S v : Nat) : List Nat := (List.range n).filter fun u => @decide (Via G S v u ∧ S.testBit u = false ∧ u ≠ v) (Classical.propDecidable _)
inductive El (G : Gr) (n : Nat) (c : Int) : Nat → Prop
  | zero : El G n c 0
  | add {S v : Nat} : El G n c S → v < n → S.testBit v = false → ((qs G n S v).length : Int) ≤ c → El G n c (S ||| 1 <<< v)
theorem El.mono {G : Gr} {n S : Nat} {c d : Int} (h : c ≤ d) (e : El G n c S) : El G n d S := by
  induction e with
  | zero => exact .zero
  | add _ a b q ih => exact .add ih a b (Int.le_trans q h)
theorem tb_or (S v u : Nat) : (S ||| 1 <<< v).testBit u = (S.testBit u || decide (v = u)) := by
  rw [Nat.testBit_or, Nat.shiftLeft_eq, Nat.one_mul, Nat.testBit_two_pow]
section
variable {n k : Nat} {G : Gr} {R : Pos → Prop} {p : Pos} {X C : List Nat}
/-- the component of a position: any of its nodes gives it -/
theorem IsPos.comp_at (o : Ok n G) (h : IsPos G n k (X, C)) {u : Nat} (hu : u ∈ C) : u < n ∧ u ∉ X ∧ C = comp G n X u := by
  obtain ⟨s, h1, h2, h3⟩ := h.ex
  have e : C = comp G n X s := h3
  subst e
  have r := (mem_comp o h1).mp hu
  exact ⟨r.lt o h1, r.out h2, comp_eq o h1 h2 r⟩
theorem IsPos.ne (o : Ok n G) (h : IsPos G n k (X, C)) : ∃ u, u ∈ C := by
  obtain ⟨s, h1, h2, h3⟩ := h.ex
  have e : C = comp G n X s := h3
  exact ⟨s, e ▸ self_comp o h1⟩
/-- what is adjacent to the component is in it or searched -/
theorem IsPos.near (o : Ok n G) (h : IsPos G n k (X, C)) {u w : Nat} (hu : u ∈ C) (g : G u w = true) (hw : w ∉ C) : w ∈ X := by
  obtain ⟨h1, h2, h3⟩ := h.comp_at o hu
  refine Classical.byContradiction fun q => hw ?_
  rw [h3, mem_comp o h1]
  exact .step .refl g q
/-- a searched node that is not near may go -/
theorem shrink1 (o : Ok n G) (hR : Refuge G n k R) (h : R (X, C)) {x : Nat} (hx : x ∈ X) (far : ∀ u ∈ C, G u x = false) : R (del x X, C) := by
  obtain ⟨hp, hh⟩ := hR _ h
  obtain ⟨D, h1, h2⟩ := hh.1 x hx
  have hd := (hR _ h1).1
  obtain ⟨u, hu⟩ := hp.ne o
  obtain ⟨a1, a2, a3⟩ := hp.comp_at o hu
  obtain ⟨b1, b2, b3⟩ := hd.comp_at o (h2 u hu)
  have e : D = C := by
    refine sorted_ext (b3 ▸ comp_sorted) (a3 ▸ comp_sorted) fun v => ⟨fun q => ?_, fun q => h2 v q⟩
    rw [b3, mem_comp o b1] at q
    clear h1 h2 hd b3
    induction q with
    | refl => exact hu
    | step r g z ih =>
      refine Classical.byContradiction fun nq => z ?_
      refine mem_del.mpr ⟨hp.near o ih g nq, fun e => ?_⟩
      subst e
      rw [far _ ih] at g
      cases g
  rw [← e]
  exact h1
/-- all far ones go -/
theorem shrink (o : Ok n G) (hR : Refuge G n k R) : ∀ (m : Nat) {X C : List Nat}, X.length ≤ m → R (X, C) → ∃ Y, R (Y, C) ∧ (∀ x ∈ Y, x ∈ X) ∧ ∀ x ∈ Y, ∃ u ∈ C, G u x = true
  | 0, X, C, hl, h => by
    have e : X = [] := List.eq_nil_of_length_eq_zero (by omega)
    subst e
    exact ⟨[], h, fun _ z => z, fun _ z => absurd z (by simp)⟩
  | m + 1, X, C, hl, h => by
    by_cases q : ∃ x, x ∈ X ∧ ∀ u ∈ C, G u x = false
    · obtain ⟨x, hx, far⟩ := q
      have := del_len_lt hx
      obtain ⟨Y, a, b, c⟩ := shrink o hR m (by omega) (shrink1 o hR h hx far)
      exact ⟨Y, a, fun x z => (mem_del.mp (b x z)).1, c⟩
    · refine ⟨X, h, fun _ z => z, fun x hx => ?_⟩
      refine Classical.byContradiction fun z => q ⟨x, hx, fun u hu => ?_⟩
      cases e : G u x with
      | false => rfl
      | true => exact absurd ⟨u, hu, e⟩ z
/-- one goes to no searcher at all -/
theorem to_nil (hR : Refuge G n k R) : ∀ (m : Nat) {X C : List Nat}, X.length ≤ m → R (X, C) → ∃ D, R ([], D)
  | 0, X, C, hl, h => by
    have e : X = [] := List.eq_nil_of_length_eq_zero (by omega)
    subst e
    exact ⟨C, h⟩
  | m + 1, X, C, hl, h => by
    cases X with
    | nil => exact ⟨C, h⟩
    | cons x r =>
      obtain ⟨D, a, _⟩ := (hR _ h).2.1 x List.mem_cons_self
      have a' : R (del x (x :: r), D) := a
      have := del_len_lt (X := x :: r) (v := x) List.mem_cons_self
      exact to_nil hR m (by omega) a'
/-- within C, a way from v over C without v is one over S -/
theorem via_of (o : Ok n G) {S v : Nat} (hp : IsPos G n k (X, C)) (hv : v ∈ C) (hC : ∀ u ∈ C, u = v ∨ S.testBit u = true) {u : Nat} (r : Reach G X v u) : u = v ∨ Via G S v u := by
  obtain ⟨a1, a2, a3⟩ := hp.comp_at o hv
  have key : ∀ w, Reach G X v w → w = v ∨ Via G S v w := by
    intro w r
    induction r with
    | refl => exact .inl rfl
    | step r g z ih =>
      rename_i a b
      rcases ih with e | y
      · subst e
        exact .inr (.nb g)
      · have ha : a ∈ C := by
          rw [a3, mem_comp o a1]
          exact r
        rcases hC a ha with e | e
        · subst e
          exact .inr (.nb g)
        · exact .inr (.step y e g)
  exact key u r
theorem mem_qs {S v u : Nat} : u ∈ qs G n S v ↔ u < n ∧ Via G S v u ∧ S.testBit u = false ∧ u ≠ v := by
  unfold qs
  rw [List.mem_filter]
  simp
theorem nodup_sub {α : Type} [DecidableEq α] : ∀ {l m : List α}, l.Nodup → (∀ x ∈ l, x ∈ m) → l.length ≤ m.length
  | [], _, _, _ => Nat.zero_le _
  | a :: l, m, d, h => by
    rw [List.nodup_cons] at d
    have ha := h a List.mem_cons_self
    have := nodup_sub (l := l) (m := m.erase a) d.2 fun x hx => (List.mem_erase_of_ne (fun e => by subst e; exact d.1 hx)).mpr (h x (List.mem_cons_of_mem _ hx))
    rw [List.length_erase_of_mem ha] at this
    have := List.length_pos_of_mem ha
    rw [List.length_cons]
    omega
/-- (a): if the nodes can be taken away with at most k - 1 near ones each, there is no refuge from k -/
theorem el_no (o : Ok n G) (hR : Refuge G n k R) {c : Int} (hc : c < k) {S : Nat} (e : El G n c S) :
    ∀ {X C : List Nat}, R (X, C) → (∀ u ∈ C, S.testBit u = true) → (∀ u ∈ C, ∀ w, w ∉ C → G u w = true → S.testBit w = false) → False := by
  induction e with
  | zero =>
    intro X C h hs _
    obtain ⟨u, hu⟩ := (hR _ h).1.ne o
    have := hs u hu
    simp at this
  | @add S v _ hv hb hq ih =>
    intro X C h hs hcl
    by_cases hvC : v ∈ C
    · obtain ⟨Y, hY, _, hnear⟩ := shrink o hR X.length (Nat.le_refl _) h
      have hp := (hR _ hY).1
      have hC : ∀ u ∈ C, u = v ∨ S.testBit u = true := fun u hu => by
        have := hs u hu
        rw [tb_or] at this
        by_cases e : u = v
        · exact .inl e
        · have ne : ¬ v = u := fun z => e z.symm
          simp [ne] at this
          exact .inr this
      obtain ⟨a1, a2, a3⟩ := hp.comp_at o hvC
      have sub : ∀ x ∈ Y, x ∈ qs G n S v := fun x hx => by
        obtain ⟨u, hu, g⟩ := hnear x hx
        have hxC : x ∉ C := fun z => (hp.comp_at o z).2.1 hx
        have hcx := hcl u hu x hxC g
        rw [tb_or] at hcx
        simp at hcx
        have r : Reach G Y v u := by
          rw [a3, mem_comp o a1] at hu
          exact hu
        refine mem_qs.mpr ⟨hp.lt x hx, ?_, hcx.1, fun z => hcx.2 z.symm⟩
        rcases via_of o hp hvC hC r with e | y
        · subst e
          exact .nb g
        · rcases hC u hu with e | e
          · subst e
            exact .nb g
          · exact .step y e g
      have hlen : Y.length ≤ (qs G n S v).length := nodup_sub (nodup_of_lt hp.srt) sub
      have hvY : v ∉ Y := a2
      rcases (hR _ hY).2.2 with q | q
      · have : (Y, C).1.length = k := q
        have : Y.length = k := this
        omega
      · obtain ⟨D, hD, hDC⟩ := q v hv hvY
        have hDp := (hR _ hD).1
        have hDC' : ∀ u ∈ D, u ∈ C := hDC
        refine ih hD (fun u hu => ?_) fun u hu w hw g => ?_
        · rcases hC u (hDC' u hu) with e | e
          · have := (hDp.comp_at o hu).2.1
            exact absurd (mem_ins.mpr (.inl e)) this
          · exact e
        · rcases mem_ins.mp (hDp.near o hu g hw) with e | e
          · rw [e]
            exact hb
          · have hwC : w ∉ C := fun z => (hp.comp_at o z).2.1 e
            have := hcl u (hDC' u hu) w hwC g
            rw [tb_or] at this
            simp at this
            exact this.1
    · refine ih h (fun u hu => ?_) fun u hu w hw g => ?_
      · have := hs u hu
        rw [tb_or] at this
        have ne : ¬ v = u := fun z => hvC (z ▸ hu)
        simp [ne] at this
        exact this
      · have := hcl u hu w hw g
        rw [tb_or] at this
        simp at this
        exact this.1
theorem el_none (o : Ok n G) {c : Int} (hc : c < k) (e : El G n c (2 ^ n - 1)) (p : Pos) : ¬ Gf G n k p := fun h => by
  obtain ⟨X, C⟩ := p
  obtain ⟨D, hD⟩ := to_nil gf_refuge X.length (Nat.le_refl _) h
  have hp := (gf_refuge _ hD).1
  refine el_no o gf_refuge hc e hD (fun u hu => ?_) fun u hu w hw g => ?_
  · have := (hp.comp_at o hu).1
    rw [Nat.testBit_two_pow_sub_one]
    simpa using this
  · exact absurd (hp.near o hu g hw) (by simp)
end
end K67M
set_option linter.all false
namespace K67M
/-! ### brambles give refuges -/
def Con (G : Gr) (n : Nat) (b : List Nat) : Prop := b ≠ [] ∧ (∀ u ∈ b, u < n) ∧ ∀ X : List Nat, (∀ x ∈ b, x ∉ X) → ∀ u ∈ b, ∀ v ∈ b, Reach G X u v
def Touch (G : Gr) (b c : List Nat) : Prop := ∃ u ∈ b, ∃ v ∈ c, u = v ∨ G u v = true
def Bram (G : Gr) (n k : Nat) : Prop := ∃ B : List (List Nat), (∀ b ∈ B, Con G n b) ∧ (∀ b ∈ B, ∀ c ∈ B, Touch G b c) ∧ ∀ X : List Nat, X.length ≤ k → ∃ b ∈ B, ∀ x ∈ b, x ∉ X
theorem bram_gf {G : Gr} {n k : Nat} (o : Ok n G) (h : Bram G n k) : ∃ p, Gf G n k p := by
  obtain ⟨B, h1, h2, h3⟩ := h
  obtain ⟨b0, hb0, hX0⟩ := h3 [] (by simp)
  obtain ⟨hne0, hlt0, hcon0⟩ := h1 b0 hb0
  obtain ⟨s0, hs0⟩ := List.exists_mem_of_ne_nil b0 hne0
  refine ⟨([], comp G n [] s0), fun p => IsPos G n k p ∧ ∃ b ∈ B, (∀ x ∈ b, x ∉ p.1) ∧ ∀ x ∈ b, x ∈ p.2, ?_, ?_⟩
  · rintro ⟨X, C⟩ ⟨hp, b, hb, hX, hC⟩
    refine ⟨hp, fun v hv => ?_, ?_⟩
    · obtain ⟨hne, hlt, hcon⟩ := h1 b hb
      obtain ⟨s, hs⟩ := List.exists_mem_of_ne_nil b hne
      have hsn := hlt s hs
      have hsX : s ∉ del v X := fun z => hX s hs (mem_del.mp z).1
      obtain ⟨_, _, e⟩ := hp.comp_at o (hC s hs)
      refine ⟨comp G n (del v X) s, ⟨⟨del_sorted hp.srt, fun u hu => hp.lt u (mem_del.mp hu).1, Nat.le_trans del_len_le hp.len, s, hsn, hsX, rfl⟩, b, hb, fun x hx z => hX x hx (mem_del.mp z).1, fun x hx => ?_⟩, fun u hu => ?_⟩
      · rw [mem_comp o hsn]
        exact hcon _ (fun y hy z => hX y hy (mem_del.mp z).1) s hs x hx
      · have hu' : u ∈ C := hu
        rw [e, mem_comp o hsn] at hu'
        rw [mem_comp o hsn]
        exact hu'.mono fun x hx => (mem_del.mp hx).1
    · by_cases hk : X.length = k
      · exact .inl hk
      · refine .inr fun v hvn hvX => ?_
        have hl : X.length ≤ k := hp.len
        obtain ⟨c, hc, hcX⟩ := h3 (ins v X) (by rw [ins_len]; omega)
        obtain ⟨hne, hlt, hcon⟩ := h1 b hb
        obtain ⟨s, hs⟩ := List.exists_mem_of_ne_nil b hne
        obtain ⟨hne', hlt', hcon'⟩ := h1 c hc
        obtain ⟨s', hs'⟩ := List.exists_mem_of_ne_nil c hne'
        obtain ⟨hsn, hsX, e⟩ := hp.comp_at o (hC s hs)
        have hsn' := hlt' s' hs'
        have hcX0 : ∀ x ∈ c, x ∉ X := fun x hx z => hcX x hx (mem_ins.mpr (.inr z))
        have hr : Reach G X s s' := by
          obtain ⟨u, hu, w, hw, t⟩ := h2 b hb c hc
          have r1 := hcon X hX s hs u hu
          have r2 := hcon' X hcX0 w hw s' hs'
          rcases t with t | t
          · subst t
            exact r1.trans r2
          · exact (r1.step t (hcX0 w hw)).trans r2
        have hvX' : v ∉ X := hvX
        refine ⟨comp G n (ins v X) s', ⟨⟨ins_sorted hp.srt hvX', fun u hu => ?_, by show (ins v X).length ≤ k; rw [ins_len]; omega, s', hsn', hcX s' hs', rfl⟩, c, hc, hcX, fun x hx => ?_⟩, fun u hu => ?_⟩
        · rcases mem_ins.mp hu with z | z
          · rw [z]
            exact hvn
          · exact hp.lt u z
        · rw [mem_comp o hsn']
          exact hcon' _ hcX s' hs' x hx
        · rw [mem_comp o hsn'] at hu
          show u ∈ C
          rw [e, mem_comp o hsn]
          exact hr.trans (hu.mono fun x hx => mem_ins.mpr (.inr hx))
  · refine ⟨⟨List.Pairwise.nil, fun v hv => absurd hv (by simp), Nat.zero_le _, s0, hlt0 s0 hs0, by simp, rfl⟩, b0, hb0, hX0, fun x hx => ?_⟩
    show x ∈ comp G n [] s0
    rw [mem_comp o (hlt0 s0 hs0)]
    exact hcon0 [] (by simp) s0 hs0 x hx
/-! ### rows as bits; a tree of looks -/
def row (A u : Nat) : Nat := (A >>> (8 * u)) &&& 255
theorem tb_row (A u v : Nat) : (row A u).testBit v = (A.testBit (8 * u + v) && decide (v < 8)) := by
  unfold row
  rw [Nat.testBit_and, Nat.testBit_shiftRight, show (255 : Nat) = 2 ^ 8 - 1 from rfl, Nat.testBit_two_pow_sub_one]
/-- every edge of G is in A -/
def Up (G : Gr) (A : Nat) : Prop := ∀ u v, G u v = true → A.testBit (8 * u + v) = true
def Dn (G : Gr) (A : Nat) : Prop := ∀ u v, v < 8 → A.testBit (8 * u + v) = true → G u v = true
theorem sub_or {a T : Nat} (h : (a ||| T == T) = true) (v : Nat) (hv : a.testBit v = true) : T.testBit v = true := by
  have e : a ||| T = T := eq_of_beq h
  rw [← e, Nat.testBit_or, hv]
  rfl
def chkT (A S T v : Nat) : Nat → Nat → Bool
  | 0, _ => true
  | m + 1, r =>
    if T.testBit m then
      if S.testBit m then (row A m ||| T == T) && chkT A S T v m r
      else if m == v then chkT A S T v m r
      else match r with
        | 0 => false
        | r + 1 => chkT A S T v m r
    else chkT A S T v m r
theorem chkT_ok {A S T v : Nat} : ∀ (m r : Nat), chkT A S T v m r = true →
    (∀ u, u < m → T.testBit u = true → S.testBit u = true → (row A u ||| T == T) = true) ∧
    ((List.range m).filter fun u => T.testBit u && !S.testBit u && !decide (u = v)).length ≤ r
  | 0, r, _ => ⟨fun u h => absurd h (Nat.not_lt_zero u), Nat.zero_le _⟩
  | m + 1, r, h => by
    have hs : ∀ r', chkT A S T v m r' = true → (T.testBit m && !S.testBit m && !decide (m = v)) = false → (T.testBit m = true → S.testBit m = true → (row A m ||| T == T) = true) → r' = r →
        (∀ u, u < m + 1 → T.testBit u = true → S.testBit u = true → (row A u ||| T == T) = true) ∧ ((List.range (m + 1)).filter fun u => T.testBit u && !S.testBit u && !decide (u = v)).length ≤ r := by
      intro r' h1 h2 h3 e
      subst e
      obtain ⟨a, b⟩ := chkT_ok m r' h1
      refine ⟨fun u hu ht hS => ?_, ?_⟩
      · by_cases e : u = m
        · subst e
          exact h3 ht hS
        · exact a u (by omega) ht hS
      · rw [List.range_succ, List.filter_append, List.filter_cons, if_neg (by rw [h2]; decide), List.filter_nil, List.append_nil]
        exact b
    unfold chkT at h
    by_cases ht : T.testBit m = true
    · rw [if_pos ht] at h
      by_cases hS : S.testBit m = true
      · rw [if_pos hS, Bool.and_eq_true] at h
        exact hs r h.2 (by simp [hS]) (fun _ _ => h.1) rfl
      · rw [if_neg hS] at h
        by_cases hm : (m == v) = true
        · rw [if_pos hm] at h
          exact hs r h (by simp [eq_of_beq hm]) (fun _ z => absurd z hS) rfl
        · rw [if_neg hm] at h
          cases r with
          | zero => cases h
          | succ r =>
            obtain ⟨a, b⟩ := chkT_ok m r h
            refine ⟨fun u hu ht' hS' => ?_, ?_⟩
            · by_cases e : u = m
              · subst e
                exact absurd hS' hS
              · exact a u (by omega) ht' hS'
            · rw [List.range_succ, List.filter_append, List.length_append]
              have : ([m].filter fun u => T.testBit u && !S.testBit u && !decide (u = v)).length ≤ 1 := List.length_filter_le _ _
              omega
    · rw [if_neg ht] at h
      exact hs r h (by simp [ht]) (fun z => absurd z ht) rfl
def chkE (A n c : Nat) : Nat → Nat → Nat → Bool
  | 0, S, _ => S == 2 ^ n - 1
  | f + 1, S, code => Nat.blt (code % 8) n && (!S.testBit (code % 8) && ((row A (code % 8) ||| (code / 8 % 256) == (code / 8 % 256)) && (chkT A S (code / 8 % 256) (code % 8) n c && chkE A n c f (S ||| 1 <<< (code % 8)) (code / 2048))))
section
variable {G : Gr} {n A : Nat}
theorem via_T (o : Ok n G) (h8 : n ≤ 8) (up : Up G A) {S T v : Nat} (h1 : (row A v ||| T == T) = true) (h2 : ∀ u, u < n → T.testBit u = true → S.testBit u = true → (row A u ||| T == T) = true) {u : Nat} (x : Via G S v u) : T.testBit u = true := by
  induction x with
  | nb g =>
    refine sub_or h1 _ ?_
    rw [tb_row, up _ _ g]
    have := (o.lt g).2
    simp
    omega
  | step _ hs g ih =>
    refine sub_or (h2 _ (o.lt g).1 ih hs) _ ?_
    rw [tb_row, up _ _ g]
    have := (o.lt g).2
    simp
    omega
theorem chkE_ok (o : Ok n G) (h8 : n ≤ 8) (up : Up G A) {c : Nat} : ∀ (f S code : Nat), El G n c S → chkE A n c f S code = true → El G n c (2 ^ n - 1)
  | 0, S, code, e, h => by
    have q : S = 2 ^ n - 1 := eq_of_beq h
    rw [← q]
    exact e
  | f + 1, S, code, e, h => by
    unfold chkE at h
    simp only [Bool.and_eq_true] at h
    obtain ⟨h1, h2, h3, h4, h5⟩ := h
    have hv : code % 8 < n := by
      have := Nat.le_of_ble_eq_true h1
      omega
    have hS : S.testBit (code % 8) = false := by simpa using h2
    refine chkE_ok o h8 up f _ _ (.add e hv hS ?_) h5
    obtain ⟨a, b⟩ := chkT_ok n c h4
    refine Int.ofNat_le.mpr (Nat.le_trans ?_ b)
    refine nodup_sub (List.nodup_range.filter _) fun u hu => ?_
    obtain ⟨q1, q2, q3, q4⟩ := mem_qs.mp hu
    refine List.mem_filter.mpr ⟨List.mem_range.mpr q1, ?_⟩
    rw [via_T o h8 up h3 a q2, q3]
    simp [q4]
/-! brambles -/
def adjB (A u v : Nat) : Bool := A.testBit (8 * u + v)
def conB (A n : Nat) : List Nat → Bool
  | [] => true
  | v :: b => Nat.blt v n && ((b.isEmpty || b.any fun u => adjB A u v) && conB A n b)
theorem conB_ok (o : Ok n G) (h8 : n ≤ 8) (dn : Dn G A) : ∀ b : List Nat, conB A n b = true → (∀ u ∈ b, u < n) ∧ ∀ X : List Nat, (∀ x ∈ b, x ∉ X) → ∀ u ∈ b, ∀ v ∈ b, Reach G X u v
  | [], _ => ⟨fun _ h => absurd h (by simp), fun _ _ _ h => absurd h (by simp)⟩
  | v :: b, h => by
    unfold conB at h
    simp only [Bool.and_eq_true, Bool.or_eq_true] at h
    obtain ⟨h1, h2, h3⟩ := h
    have hv : v < n := by
      have := Nat.le_of_ble_eq_true h1
      omega
    obtain ⟨a, c⟩ := conB_ok o h8 dn b h3
    refine ⟨fun u hu => ?_, fun X hX u hu w hw => ?_⟩
    · rcases List.mem_cons.mp hu with e | e
      · rw [e]
        exact hv
      · exact a u e
    · have cb := c X fun x hx => hX x (List.mem_cons_of_mem _ hx)
      have vX : v ∉ X := hX v List.mem_cons_self
      have down : ∀ w ∈ b, Reach G X v w := fun w hw => by
        rcases h2 with e | e
        · rw [List.isEmpty_iff] at e
          subst e
          exact absurd hw (by simp)
        · obtain ⟨x, hx, g⟩ := List.any_eq_true.mp e
          have gx := o.sym (dn _ _ (by omega) g)
          exact (Reach.step .refl gx (hX x (List.mem_cons_of_mem _ hx))).trans (cb x hx w hw)
      rcases List.mem_cons.mp hu with e | e
      · subst e
        rcases List.mem_cons.mp hw with e | e
        · subst e
          exact .refl
        · exact down w e
      · rcases List.mem_cons.mp hw with e2 | e2
        · subst e2
          exact (down u e).symm o vX
        · exact cb u e w e2
def tchB (A : Nat) (b c : List Nat) : Bool := b.any fun u => c.any fun v => u == v || adjB A u v
def hitB : Nat → List (List Nat) → Bool
  | _, [] => false
  | 0, _ :: _ => true
  | k + 1, b :: B => b.all fun v => hitB k ((b :: B).filter fun c => !c.contains v)
theorem hitB_ok : ∀ (k : Nat) (B : List (List Nat)), hitB k B = true → ∀ X : List Nat, X.length ≤ k → ∃ b ∈ B, ∀ x ∈ b, x ∉ X
  | k, [], h, _, _ => by cases k <;> cases h
  | 0, b :: B, _, X, hl => by
    have e : X = [] := List.eq_nil_of_length_eq_zero (by omega)
    subst e
    exact ⟨b, List.mem_cons_self, fun _ _ => by simp⟩
  | k + 1, b :: B, h, X, hl => by
    by_cases q : ∃ v ∈ b, v ∈ X
    · obtain ⟨v, hv, hX⟩ := q
      have h1 := List.all_eq_true.mp (show (b.all fun v => hitB k ((b :: B).filter fun c => !c.contains v)) = true from h) v hv
      have hl' : (X.erase v).length ≤ k := by
        rw [List.length_erase_of_mem hX]
        omega
      obtain ⟨c, hc, hcX⟩ := hitB_ok k _ h1 (X.erase v) hl'
      obtain ⟨hc1, hc2⟩ := List.mem_filter.mp hc
      have hvc : v ∉ c := by simpa using hc2
      exact ⟨c, hc1, fun x hx z => hcX x hx ((List.mem_erase_of_ne (fun e => by subst e; exact hvc hx)).mpr z)⟩
    · exact ⟨b, List.mem_cons_self, fun x hx z => q ⟨x, hx, z⟩⟩
def chkB (A n k : Nat) (B : List (List Nat)) : Bool := hitB k B && (B.all (fun b => !b.isEmpty && conB A n b) && B.all fun b => B.all fun c => tchB A b c)
theorem chkB_ok (o : Ok n G) (h8 : n ≤ 8) (dn : Dn G A) {k : Nat} {B : List (List Nat)} (h : chkB A n k B = true) : Bram G n k := by
  unfold chkB at h
  simp only [Bool.and_eq_true, List.all_eq_true] at h
  obtain ⟨h1, h2, h3⟩ := h
  refine ⟨B, fun b hb => ?_, fun b hb c hc => ?_, hitB_ok k B h1⟩
  · obtain ⟨a, c⟩ := conB_ok o h8 dn b (h2 b hb).2
    refine ⟨fun e => ?_, a, c⟩
    have := (h2 b hb).1
    subst e
    simp at this
  · have hcn := (conB_ok o h8 dn c (h2 c hc).2).1
    obtain ⟨u, hu, t⟩ := List.any_eq_true.mp (h3 b hb c hc)
    obtain ⟨v, hv, t⟩ := List.any_eq_true.mp t
    refine ⟨u, hu, v, hv, ?_⟩
    rcases Bool.or_eq_true _ _ ▸ t with z | z
    · exact .inl (eq_of_beq z)
    · exact .inr (dn _ _ (by have := hcn v hv; omega) z)
/-- digits to base 8, the least first: 7 closes a set, 6 ends -/
def dec : Nat → Nat → List Nat → List (List Nat)
  | 0, _, _ => []
  | f + 1, code, acc => if code % 8 == 6 then [] else if code % 8 == 7 then acc :: dec f (code / 8) [] else dec f (code / 8) (code % 8 :: acc)
inductive Tr where
  | br (u v : Nat) (a b : Tr)
  | el (code : Nat)
  | bm (code : Nat)
def ed (u v : Nat) : Nat := (1 <<< (8 * u + v)) ||| (1 <<< (8 * v + u))
def chk (n k : Nat) : Tr → Nat → Nat → Bool
  | .br u v a b, lo, hi => Nat.blt u 8 && (Nat.blt v 8 && (chk n k a lo (hi ^^^ ed u v) && chk n k b (lo ||| ed u v) hi))
  | .el code, _, hi => chkE hi n k n 0 code
  | .bm code, lo, _ => chkB lo n (k + 1) (dec 60 code [])
theorem tb_ed {u v a b : Nat} (hu : u < 8) (hv : v < 8) (hb : b < 8) (h : (ed u v).testBit (8 * a + b) = true) : (a = u ∧ b = v) ∨ (a = v ∧ b = u) := by
  unfold ed at h
  rw [Nat.testBit_or, Nat.shiftLeft_eq, Nat.shiftLeft_eq, Nat.one_mul, Nat.one_mul, Nat.testBit_two_pow, Nat.testBit_two_pow, Bool.or_eq_true, decide_eq_true_eq, decide_eq_true_eq] at h
  omega
theorem chk_ok (o : Ok n G) (h8 : n ≤ 8) {k : Nat} : ∀ (t : Tr) (lo hi : Nat), chk n k t lo hi = true → Dn G lo → Up G hi → El G n (k : Int) (2 ^ n - 1) ∨ Bram G n (k + 1)
  | .br u v a b, lo, hi, h, dn, up => by
    unfold chk at h
    simp only [Bool.and_eq_true] at h
    obtain ⟨h1, h2, h3, h4⟩ := h
    have hu : u < 8 := by have := Nat.le_of_ble_eq_true h1; omega
    have hv : v < 8 := by have := Nat.le_of_ble_eq_true h2; omega
    cases g : G u v with
    | true =>
      refine chk_ok o h8 b _ _ h4 (fun x y hy t => ?_) up
      rw [Nat.testBit_or, Bool.or_eq_true] at t
      rcases t with t | t
      · exact dn x y hy t
      · rcases tb_ed hu hv hy t with ⟨e1, e2⟩ | ⟨e1, e2⟩
        · rw [e1, e2]
          exact g
        · rw [e1, e2]
          exact o.sym g
    | false =>
      refine chk_ok o h8 a _ _ h3 dn fun x y gx => ?_
      have hy : y < 8 := by have := (o.lt gx).2; omega
      rw [Nat.testBit_xor, up x y gx]
      cases e : (ed u v).testBit (8 * x + y) with
      | false => rfl
      | true =>
        rcases tb_ed hu hv hy e with ⟨e1, e2⟩ | ⟨e1, e2⟩
        · rw [e1, e2, g] at gx
          cases gx
        · rw [e1, e2] at gx
          rw [o.sym gx] at g
          cases g
  | .el code, lo, hi, h, _, up => .inl (chkE_ok o h8 up n 0 code .zero h)
  | .bm code, lo, hi, h, dn, _ => .inr (chkB_ok o h8 dn h)
end
end K67M
set_option linter.all false
set_option Elab.async false
set_option maxRecDepth 100000
namespace K67M
open Tr
noncomputable def t20 : Tr := (br 0 1 (el 2048) (bm 28217))
noncomputable def t30 : Tr := (br 0 1 (br 0 2 (br 1 2 (el 8390656) (bm 28282)) (bm 28218)) (bm 28217))
noncomputable def t31 : Tr := (br 0 1 (el 243337248) (br 0 2 (el 243386384) (br 1 2 (el 243384329) (bm 1805946))))
noncomputable def t40 : Tr := (br 0 1 (br 0 2 (br 1 2 (br 0 3 (br 1 3 (br 2 3 (el 25778194432) (bm 28347)) (bm 28283)) (bm 28219)) (bm 28282)) (bm 28218)) (bm 28217))
noncomputable def t41 : Tr := (br 0 1 (br 2 3 (br 0 2 (el 1057035948096) (br 1 2 (el 1056998182977) (br 0 3 (el 1057069584416) (br 1 3 (el 1057065390113) (bm 14523962))))) (br 0 2 (br 1 2 (el 1056838912064) (br 1 3 (el 1057040173120) (bm 1810107))) (br 0 3 (br 1 2 (el 1057006684192) (br 1 3 (el 1057073727520) (bm 14487163))) (bm 1806011)))) (br 0 2 (br 0 3 (br 1 2 (el 1056838961168) (br 1 3 (el 1057073776656) (br 2 3 (el 1057069502480) (bm 14454459)))) (br 1 3 (br 1 2 (el 1056838959113) (br 2 3 (el 1057065388050) (bm 14528057))) (bm 1805947))) (br 1 2 (br 0 3 (br 1 3 (el 1057073774601) (br 2 3 (el 1057069580298) (bm 14528057))) (br 1 3 (br 2 3 (el 1057065291785) (bm 14454459)) (bm 14487163))) (bm 1805946))))
noncomputable def t42 : Tr := (br 0 1 (el 1057073858656) (br 0 2 (el 1057073907792) (br 1 2 (el 1057073905737) (br 0 3 (el 1057073907760) (br 1 3 (el 1057073905705) (br 2 3 (el 1057069711386) (bm 115580603)))))))
noncomputable def t50 : Tr := (br 0 1 (br 0 2 (br 1 2 (br 0 3 (br 1 3 (br 2 3 (br 0 4 (br 1 4 (br 2 4 (br 3 4 (el 70394522372096) (bm 28412)) (bm 28348)) (bm 28284)) (bm 28220)) (bm 28347)) (bm 28283)) (bm 28219)) (bm 28282)) (bm 28218)) (bm 28217))
noncomputable def t51_0 : Tr := (br 0 1 (br 2 3 (br 0 4 (br 1 4 (br 0 2 (br 1 2 (el 4435112624261184) (br 1 3 (el 4434975386568768) (br 2 4 (el 4435387430768704) (br 3 4 (el 4435378874538048) (bm 14564986))))) (br 0 3 (br 1 2 (el 4435044072556576) (br 1 3 (el 4434356944832544) (br 2 4 (el 4435387464405024) (br 3 4 (el 4435378840836128) (bm 115898617))))) (br 1 2 (br 2 4 (el 4435387393003585) (br 3 4 (el 4435378870343745) (bm 14564922))) (br 1 3 (br 2 4 (el 4435387460210721) (br 3 4 (el 4435378803071009) (bm 115931384))) (bm 14523962))))) (br 1 2 (br 1 3 (br 0 2 (el 4434975185438784) (br 0 3 (el 4434356877920288) (br 2 4 (el 4435249954050177) (br 3 4 (el 4435241364117633) (bm 116268602))))) (br 3 4 (br 0 2 (el 4435095280947264) (br 0 3 (el 4435026259562528) (br 2 4 (el 4435370293018634) (bm 116193464)))) (bm 1810172))) (br 2 4 (br 1 3 (br 0 2 (el 4434975382343744) (br 0 3 (el 4434356940689440) (br 3 4 (el 4435370288824331) (bm 116268602)))) (br 3 4 (br 0 2 (el 4435370158624832) (br 0 3 (el 4435369856716832) (bm 116497978))) (bm 14491388))) (bm 1810108)))) (br 0 2 (br 0 3 (br 1 4 (br 1 2 (el 4435043904784512) (br 1 3 (el 4434356911278208) (br 2 4 (el 4435318711292032) (br 3 4 (el 4435310121359488) (bm 116193338))))) (br 1 2 (br 1 3 (el 4434356710148224) (br 3 4 (el 4435026259480704) (bm 14552699))) (br 2 4 (br 1 3 (el 4434356907053184) (br 3 4 (el 4435301137158272) (bm 115931195))) (bm 14552698)))) (br 3 4 (br 1 3 (br 1 2 (el 4434948916514945) (br 1 4 (el 4434948916613153) (br 2 4 (el 4434948916611090) (bm 116493946)))) (br 1 4 (br 1 2 (el 4435086691012673) (br 2 4 (el 4435361703102482) (bm 116193464))) (bm 14556731))) (bm 1806076))) (br 2 4 (br 1 2 (br 0 3 (br 1 3 (el 4434356869288065) (br 1 4 (el 4435044064055361) (br 3 4 (el 4435026259558410) (bm 116461179)))) (br 3 4 (br 1 3 (el 4435223794176129) (br 1 4 (el 4435361568673857) (bm 115898491))) (bm 14487292))) (br 1 4 (br 0 3 (br 1 3 (el 4434356936495137) (br 3 4 (el 4435361698908179) (bm 116497978))) (br 1 3 (br 3 4 (el 4435361233227809) (bm 115674876)) (bm 116422266))) (bm 14556730))) (bm 1806012)))) (br 2 4 (br 0 2 (br 1 2 (br 3 4 (br 0 3 (el 4435301539909760) (br 1 3 (el 4435224196944001) (br 0 4 (el 4435370292940864) (br 1 4 (el 4435361703006273) (bm 116455096))))) (br 0 3 (br 1 3 (el 4435181075433600) (br 1 4 (el 4435318514256000) (bm 14528124))) (br 0 4 (br 1 3 (el 4435249794910272) (br 1 4 (el 4435387233732672) (bm 115969660))) (bm 14528060)))) (br 1 3 (br 1 4 (br 0 3 (el 4435318715517056) (br 0 4 (el 4435387434993728) (br 3 4 (el 4435361703104545) (bm 116203068)))) (br 3 4 (br 0 3 (el 4435301535651968) (br 0 4 (el 4435370288830528) (bm 116455096))) (bm 14564986))) (bm 1810107))) (br 0 3 (br 1 2 (br 0 4 (br 1 3 (el 4435249962682400) (br 1 4 (el 4435387401504800) (br 3 4 (el 4435370293022752) (bm 116199036)))) (br 3 4 (br 1 3 (el 4435224192686209) (br 1 4 (el 4435361698912321) (bm 116455096))) (bm 14564922))) (br 1 3 (br 0 4 (br 1 4 (el 4435387468548128) (br 3 4 (el 4435370288683040) (bm 115898617))) (br 1 4 (br 3 4 (el 4435361698748449) (bm 115931384)) (bm 116455096))) (bm 14487163))) (bm 1806011))) (br 3 4 (br 0 2 (br 1 2 (br 0 3 (br 1 3 (el 4435172355475584) (br 1 4 (el 4435310129842304) (bm 14560891))) (br 0 4 (br 1 3 (el 4435241376942144) (br 1 4 (el 4435378882873408) (bm 116487737))) (bm 14560827))) (br 1 3 (br 1 4 (br 0 3 (el 4435309794232448) (br 0 4 (el 4435378815699008) (bm 116465211))) (bm 14528124)) (bm 14560891))) (br 0 3 (br 0 4 (br 1 2 (br 1 3 (el 4435241074952224) (br 1 4 (el 4435378849318944) (bm 115898491))) (br 1 3 (br 1 4 (el 4435378513709088) (bm 116199036)) (bm 116461179))) (bm 14528060)) (bm 14560827))) (bm 1814268)))) (br 0 2 (br 0 3 (br 0 4 (br 1 2 (br 3 4 (br 1 3 (el 4435172355524624) (br 2 3 (el 4435094978957328) (br 1 4 (el 4435378882922512) (br 2 4 (el 4435370259386384) (bm 115636411))))) (br 1 3 (br 2 3 (el 4434356710197264) (br 2 4 (el 4435181075482640) (bm 1814268))) (br 1 4 (br 2 3 (el 4435112624310288) (br 2 4 (el 4435387233781776) (bm 116166332))) (bm 14454524)))) (br 1 3 (br 1 4 (br 2 3 (el 4434356944881680) (br 2 4 (el 4435387468597264) (br 3 4 (el 4435378513758224) (bm 115904252)))) (br 2 4 (br 2 3 (el 4434356940607504) (br 3 4 (el 4435370255128592) (bm 115636474))) (bm 14454460))) (br 2 3 (br 1 4 (br 2 4 (el 4435387464323088) (br 3 4 (el 4435378874390544) (bm 115636474))) (br 2 4 (br 3 4 (el 4435369856634896) (bm 115904252)) (bm 116166332))) (bm 14454459)))) (br 1 4 (br 1 2 (br 1 3 (br 2 3 (el 4434356710195209) (br 2 4 (el 4435181075480585) (br 3 4 (el 4435172355522569) (bm 116428475)))) (br 3 4 (br 2 3 (el 4435086682396802) (br 2 4 (el 4435361694718018) (bm 116502073))) (bm 14564921))) (br 2 4 (br 1 3 (br 2 3 (el 4434356936493074) (br 3 4 (el 4435361694715939) (bm 116502073))) (br 2 3 (br 3 4 (el 4435361694521362) (bm 115931384)) (bm 116428475))) (bm 14560825))) (bm 1805948))) (br 1 3 (br 0 4 (br 1 2 (br 1 4 (br 2 3 (el 4435112624308233) (br 2 4 (el 4435387233779721) (br 3 4 (el 4435378882920457) (bm 116166332)))) (br 3 4 (br 2 3 (el 4435095268120706) (br 2 4 (el 4435370280441922) (bm 116502073))) (bm 14564921))) (br 2 3 (br 1 4 (br 2 4 (el 4435387460208658) (br 3 4 (el 4435378874531851) (bm 116272697))) (br 2 4 (br 3 4 (el 4435370146027538) (bm 115931384)) (bm 116166332))) (bm 14528057))) (br 1 4 (br 3 4 (br 1 2 (br 2 3 (el 4435086355468297) (br 2 4 (el 4435361635897353) (bm 115636411))) (br 2 3 (br 2 4 (el 4435361233225746) (bm 116160697)) (bm 116422329))) (bm 14454524)) (bm 14519932))) (bm 1805947))) (br 1 2 (br 0 3 (br 0 4 (br 1 3 (br 1 4 (br 2 3 (el 4434356944879625) (br 2 4 (el 4435387468595209) (br 3 4 (el 4435378513756169) (bm 115904252)))) (br 2 4 (br 2 3 (el 4434356940685322) (br 3 4 (el 4435370280439843) (bm 116502073))) (bm 14560825))) (br 2 3 (br 1 4 (br 2 4 (el 4435387464400906) (br 3 4 (el 4435378870339603) (bm 116272697))) (br 2 4 (br 3 4 (el 4435369856712714) (bm 115904252)) (bm 116193464))) (bm 14528057))) (br 1 4 (br 2 4 (br 1 3 (br 2 3 (el 4434356936396809) (br 3 4 (el 4435361631639561) (bm 115636474))) (br 2 3 (br 3 4 (el 4435361560303626) (bm 115898617)) (bm 116422329))) (bm 14454460)) (bm 14487164))) (br 1 3 (br 2 3 (br 0 4 (br 1 4 (br 2 4 (el 4435387460112393) (br 3 4 (el 4435378870179849) (bm 115636474))) (br 2 4 (br 3 4 (el 4435370280245258) (bm 115898617)) (bm 116160697))) (br 1 4 (br 2 4 (br 3 4 (el 4435361233129481) (bm 115904252)) (bm 116166332)) (bm 116199036))) (bm 14454459)) (bm 14487163))) (bm 1805946))))
noncomputable def t51 : Tr := t51_0
noncomputable def t52 : Tr := (br 0 1 (br 0 2 (br 1 2 (el 4435387770865856) (br 1 3 (el 4435387972126912) (br 2 3 (el 4435387967901888) (br 1 4 (el 4435387971995840) (br 2 4 (el 4435387967770816) (br 3 4 (br 0 3 (el 4435310658295936) (br 0 4 (el 4435379411474496) (bm 931372731))) (bm 115846908))))))) (br 0 3 (br 1 2 (el 4435387938637984) (br 1 3 (el 4435388005681312) (br 2 3 (el 4435388001538208) (br 1 4 (el 4435388005550240) (br 3 4 (el 4435379377772704) (br 0 4 (br 2 4 (el 4435388001407008) (bm 927178492)) (bm 931372794))))))) (br 0 4 (br 1 2 (el 4435387938637920) (br 1 3 (el 4435388005681248) (br 1 4 (el 4435388005550176) (br 2 4 (el 4435388001407072) (br 3 4 (el 4435379411474528) (bm 929275706)))))) (br 2 3 (br 1 2 (el 4435387930136769) (br 1 3 (el 4435387997343905) (br 1 4 (br 2 4 (el 4435387997212769) (br 3 4 (el 4435379407280225) (bm 929533754))) (br 2 4 (br 3 4 (el 4435370817148954) (bm 927436540)) (bm 929533628))))) (br 2 4 (br 1 2 (el 4435387930005697) (br 1 4 (el 4435387997212769) (br 1 3 (br 3 4 (el 4435379340007585) (bm 931630842)) (bm 931630779)))) (br 3 4 (br 1 3 (el 4435379340007585) (br 1 4 (el 4435379407280225) (bm 931630779))) (bm 115584764))))))) (br 0 2 (br 0 3 (br 1 2 (el 4435387770914960) (br 1 3 (el 4435388005730448) (br 2 3 (el 4435388001456272) (br 2 4 (el 4435388001325200) (br 3 4 (el 4435379411327120) (br 0 4 (br 1 4 (el 4435388005599248) (bm 925085436)) (bm 931376889))))))) (br 0 4 (br 1 2 (el 4435387770914896) (br 2 3 (el 4435388001456208) (br 1 4 (el 4435388005599312) (br 2 4 (el 4435388001325136) (br 3 4 (el 4435379411474512) (bm 929279801)))))) (br 1 3 (br 1 2 (el 4435387770912905) (br 2 3 (el 4435387997341842) (br 1 4 (br 2 4 (el 4435387997212713) (br 3 4 (el 4435379407116329) (bm 927436540))) (br 2 4 (br 3 4 (el 4435370817345618) (bm 929795708)) (bm 929795708))))) (br 1 4 (br 1 2 (el 4435387770912841) (br 2 4 (el 4435387997210706) (br 2 3 (br 3 4 (el 4435370682931346) (bm 931892859)) (bm 931892859)))) (br 3 4 (br 2 3 (el 4435370682931346) (br 2 4 (el 4435370817345618) (bm 931892859))) (bm 115580668)))))) (br 1 2 (br 1 3 (br 0 3 (el 4435388005728393) (br 2 3 (el 4435387997245577) (br 2 4 (el 4435387997114505) (br 3 4 (el 4435379407116425) (br 0 4 (br 1 4 (el 4435388005597193) (bm 931630779)) (bm 925085436)))))) (br 1 4 (br 2 3 (el 4435387997245513) (br 0 4 (el 4435388005597257) (br 2 4 (el 4435387997114441) (br 3 4 (el 4435379407280201) (bm 929533628))))) (br 2 3 (br 0 3 (el 4435388001534090) (br 3 4 (el 4435370817149066) (br 0 4 (br 2 4 (el 4435388001402890) (bm 931892859)) (bm 927178492)))) (br 2 4 (br 0 4 (el 4435388001402954) (br 3 4 (el 4435370817345610) (bm 929795708))) (br 0 3 (br 0 4 (br 3 4 (el 4435379411327024) (bm 927186745)) (bm 929795708)) (bm 931892859)))))) (br 0 3 (br 0 4 (br 1 3 (el 4435388005730352) (br 2 3 (el 4435388001538096) (br 1 4 (el 4435388005599280) (br 2 4 (el 4435388001407024) (br 3 4 (el 4435379411327024) (bm 3789136142076)))))) (br 1 4 (br 1 3 (el 4435388005728297) (br 3 4 (el 4435379407276083) (br 2 3 (br 2 4 (el 4435388001533978) (bm 932155002)) (bm 932155002)))) (br 2 4 (br 2 3 (el 4435388001533978) (br 3 4 (el 4435370817343539) (bm 932155002))) (bm 115580604)))) (br 1 3 (br 1 4 (br 2 3 (el 4435387997343785) (br 0 4 (el 4435388005597225) (br 2 4 (el 4435387997212713) (br 3 4 (el 4435379407116329) (bm 3789136142076))))) (br 2 4 (br 2 3 (el 4435387997341722) (br 3 4 (el 4435370817343531) (bm 932155002))) (br 0 4 (br 3 4 (el 4435379411468331) (bm 932155002)) (bm 929275580)))) (br 2 3 (br 2 4 (br 0 4 (el 4435388001402906) (br 1 4 (el 4435387997210650) (br 3 4 (el 4435370817148954) (bm 3789136142076)))) (br 3 4 (br 0 4 (el 4435379411468315) (br 1 4 (el 4435379407276059) (bm 3789152951996))) (bm 932155002))) (bm 115580603)))))))
noncomputable def t53 : Tr := (br 0 1 (el 4435388005812448) (br 0 2 (el 4435388005861584) (br 1 2 (el 4435388005859529) (br 0 3 (el 4435388005861552) (br 1 3 (el 4435388005859497) (br 2 3 (el 4435388001665178) (br 0 4 (el 4435388005861488) (br 1 4 (el 4435388005859433) (br 2 4 (el 4435388001665114) (br 3 4 (el 4435379411730491) (bm 7397158652)))))))))))
noncomputable def t60 : Tr := (br 0 1 (br 0 2 (br 1 2 (br 0 3 (br 1 3 (br 2 3 (br 0 4 (br 1 4 (br 2 4 (br 3 4 (br 0 5 (br 1 5 (br 2 5 (br 3 5 (br 4 5 (el 180214379617191936) (bm 28477)) (bm 28413)) (bm 28349)) (bm 28285)) (bm 28221)) (bm 28412)) (bm 28348)) (bm 28284)) (bm 28220)) (bm 28347)) (bm 28283)) (bm 28219)) (bm 28282)) (bm 28218)) (bm 28217))
noncomputable def t61_0 : Tr := (br 3 5 (br 1 2 (br 0 3 (br 0 4 (br 1 3 (el 18347139075381135616) (br 2 4 (el 18346839861925253376) (br 3 4 (el 18346011527070390528) (br 1 5 (el 18347420688131950848) (br 2 5 (el 18347403087427408128) (bm 116750585)))))) (br 0 5 (br 1 3 (el 18347279881588967552) (br 2 4 (el 18346980668703510656) (br 3 4 (el 18346153432789850240) (br 1 5 (el 18347561494339782784) (br 2 5 (el 18347543893668794496) (bm 929546730)))))) (br 2 4 (br 1 3 (el 18346681472385552641) (br 3 4 (el 18345553924074805506) (br 1 5 (el 18346963085136760897) (bm 116717816)))) (br 2 5 (br 1 3 (el 18347244697216618753) (br 3 4 (el 18346118248417761410) (br 1 5 (el 18347526309967827009) (bm 930183800)))) (bm 14593596))))) (br 0 4 (br 0 5 (br 1 3 (el 18347279881890957376) (br 2 4 (el 18346980668133085248) (br 3 4 (el 18346011527104092224) (br 1 5 (el 18347561494373337152) (br 2 5 (el 18347543893635240000) (bm 934377017)))))) (br 1 3 (br 2 4 (el 18346681463531376897) (br 3 4 (el 18346011527032625409) (br 2 5 (el 18347244689033531649) (bm 116750584)))) (br 1 5 (br 2 4 (el 18346963075947040833) (br 3 4 (el 18346011527099897921) (br 2 5 (el 18347526301449195585) (bm 934377080)))) (bm 14589499)))) (br 3 4 (br 0 5 (br 1 3 (el 18347279881877870849) (br 2 4 (el 18346980668686229762) (br 1 5 (el 18347561494360807489) (br 2 5 (el 18347543893652103298) (bm 934377080))))) (br 1 3 (br 2 4 (el 18346679822614794497) (br 2 5 (el 18347244146957488385) (bm 116161212))) (br 1 5 (br 2 4 (el 18346961297927049281) (br 2 5 (el 18347525622269743169) (bm 925661884))) (bm 116423291)))) (bm 1806076)))) (br 1 5 (br 3 4 (br 0 3 (br 0 4 (el 18347418901014419712) (br 2 4 (el 18345553924213409811) (br 0 5 (el 18347560806733879424) (br 2 5 (el 18347526310097815571) (bm 116727356))))) (br 1 3 (br 0 4 (el 18346293002009335841) (br 2 4 (el 18346679822614892577) (br 0 5 (el 18347561356854581281) (br 2 5 (el 18347525759373250593) (bm 933819964))))) (br 0 4 (br 0 5 (el 18347559638536476736) (br 2 5 (el 18347526301503819812) (bm 116193976))) (br 2 4 (br 0 5 (el 18347561468603809804) (br 2 5 (el 18347524248014391314) (bm 931378154))) (bm 116193464))))) (br 0 3 (br 1 3 (br 0 4 (el 18347420550357387520) (br 2 4 (el 18346681472385650721) (br 0 5 (el 18347561356565219456) (br 2 5 (el 18347526309632380961) (bm 933820664))))) (br 2 4 (br 0 4 (el 18347420662362153216) (br 0 5 (el 18347561468603818112) (br 2 5 (el 18347526310102009874) (bm 931986104)))) (bm 14564986))) (br 0 4 (br 1 3 (br 2 4 (el 18346681463531474977) (br 0 5 (el 18347561356867209280) (br 2 5 (el 18347526301516402721) (bm 933820664)))) (br 2 4 (br 0 5 (el 18347561468603539520) (br 2 5 (el 18347526300778072082) (bm 931986104))) (bm 116160697))) (bm 1806076)))) (br 2 5 (br 0 3 (br 2 4 (br 1 3 (el 18346681472385648658) (br 0 4 (el 18347402811878183168) (br 3 4 (el 18345553924209022994) (br 0 5 (el 18347543618656440448) (bm 933820664))))) (br 1 3 (br 0 4 (el 18347403078837475584) (br 0 5 (el 18347543885078861952) (bm 116717752))) (br 3 4 (br 0 4 (el 18347402528276125952) (br 0 5 (el 18347543335054383232) (bm 934082744))) (bm 116717818)))) (br 1 3 (br 0 4 (br 2 4 (el 18346681463531472914) (br 3 4 (el 18346276628369915915) (br 0 5 (el 18347543885079009344) (bm 930183800)))) (br 3 4 (br 2 4 (el 18346679822614890514) (br 0 5 (el 18347543885079003147) (bm 929289186))) (bm 1806076))) (br 0 5 (br 0 4 (br 2 4 (el 18347543618086015040) (br 3 4 (el 18347543265764628544) (bm 933736930))) (br 2 4 (br 3 4 (el 18347543618639650834) (bm 934092348)) (bm 934082744))) (bm 116727355)))) (bm 1810109)))) (br 0 3 (br 1 3 (br 3 4 (br 2 5 (br 1 2 (el 18346118248090833153) (br 0 4 (el 18346276628369774848) (br 2 4 (el 18345553923748235282) (br 0 5 (el 18346417435148032128) (br 1 5 (el 18346399860506595361) (bm 930412728)))))) (br 1 2 (br 0 4 (el 18346011526743722240) (br 2 4 (el 18345553923748139265) (br 0 5 (el 18346153432463181952) (bm 116488952)))) (br 1 5 (br 0 4 (el 18346293001719974144) (br 2 4 (el 18345553923748237345) (br 0 5 (el 18346434907439433856) (bm 931724024)))) (bm 14597754)))) (br 2 4 (br 0 4 (br 1 2 (el 18346592343756900608) (br 1 5 (el 18346592343957768448) (br 2 5 (el 18346592343953543424) (bm 116801146)))) (br 0 5 (br 1 2 (el 18346734249476360320) (br 1 5 (el 18346734249677228160) (br 2 5 (el 18346734249673003136) (bm 934153850)))) (bm 14597692))) (br 2 5 (br 1 2 (br 0 4 (el 18347156667562985728) (br 0 5 (el 18347297473770817664) (bm 116783288))) (br 1 5 (br 0 4 (el 18347438280179517696) (br 0 5 (el 18347579086387349632) (bm 931724024))) (bm 116801146))) (bm 14597820)))) (br 1 5 (br 1 2 (br 3 4 (br 0 4 (el 18346011527078873344) (br 2 4 (el 18345553924083683393) (br 0 5 (el 18346153432798333056) (br 2 5 (el 18346118248426377281) (bm 934082744))))) (br 0 4 (br 2 4 (el 18346873818733218048) (br 2 5 (el 18347438142539303168) (bm 116193980))) (br 0 5 (br 2 4 (el 18347015724452677760) (br 2 5 (el 18347578948747135104) (bm 929551840))) (bm 116760124)))) (br 2 5 (br 2 4 (br 0 4 (el 18347436768078369024) (br 3 4 (el 18345553924217604114) (br 0 5 (el 18347578673797828736) (bm 934092348)))) (br 3 4 (br 0 4 (el 18347438254409720064) (br 0 5 (el 18347579060651384960) (bm 934082744))) (bm 116801146))) (bm 14597754))) (bm 1810173))) (br 0 5 (br 1 3 (br 0 4 (br 2 5 (br 1 2 (el 18347297405051340864) (br 2 4 (el 18346733081441898560) (br 3 4 (el 18346276628369922112) (br 1 5 (el 18347579017667872832) (bm 929289186))))) (br 1 2 (br 2 4 (el 18346733081245255744) (br 3 4 (el 18346011527045711936) (bm 116161212))) (br 1 5 (br 2 4 (el 18346733081446123584) (br 3 4 (el 18346293002021963840) (bm 933819964))) (bm 116756090)))) (br 3 4 (br 2 4 (br 1 2 (el 18346734214084825345) (br 1 5 (el 18346734214084923425) (br 2 5 (el 18346734214084921362) (bm 934383226)))) (br 2 5 (br 1 2 (el 18347297439586980097) (br 1 5 (el 18347579052069851169) (bm 930412728))) (bm 116488952))) (bm 14597692))) (br 1 5 (br 1 2 (br 0 4 (br 2 4 (el 18347014556221573184) (br 3 4 (el 18346011527112427584) (br 2 5 (el 18347578880027658304) (bm 925661884)))) (br 3 4 (br 2 4 (el 18347015689061535809) (br 2 5 (el 18347578914563690561) (bm 934377080))) (bm 116760124))) (br 2 5 (br 0 4 (br 2 4 (el 18347577505566724160) (br 3 4 (el 18347578991898075200) (bm 934049977))) (br 2 4 (br 3 4 (el 18347578639014660114) (bm 934092348)) (bm 934082744))) (bm 116161209))) (bm 14519933))) (bm 1806077))))
noncomputable def t61_1 : Tr := (br 0 4 (br 0 5 (br 1 2 (br 0 3 (br 1 3 (br 1 4 (br 2 4 (el 18346592343924672544) (br 3 4 (el 18346152264232077344) (br 2 5 (el 18347297473938589728) (br 3 5 (el 18347279812869490720) (bm 115899132))))) (br 1 5 (br 2 4 (el 18346875055851702304) (br 3 4 (el 18346434976159107104) (br 2 5 (el 18347579086353991712) (br 3 5 (el 18347561425284892704) (bm 927193057))))) (br 2 4 (br 3 4 (el 18345712322142097440) (br 3 5 (el 18346839870779510816) (bm 14597756))) (br 2 5 (br 3 4 (el 18346417452692623392) (br 3 5 (el 18347543901818408992) (bm 931691257))) (bm 115899004))))) (br 1 4 (br 1 5 (br 2 4 (el 18346873818900989984) (br 3 4 (el 18346152264567228448) (br 2 5 (el 18347578948914907168) (br 3 5 (el 18347561425620305952) (bm 934081596))))) (br 3 5 (br 2 4 (el 18346839861925335072) (br 3 4 (el 18346152264558745632) (br 2 5 (el 18347543893668876320) (bm 927192035)))) (bm 1810173))) (br 3 4 (br 1 5 (br 2 4 (el 18346875028916228128) (br 2 5 (el 18347579060659769376) (br 3 5 (el 18347561425611823136) (bm 927187947)))) (br 3 5 (br 2 4 (el 18346838221042307104) (br 2 5 (el 18347543351592833056) (bm 934081596))) (bm 14556925))) (bm 1810172)))) (br 2 4 (br 2 5 (br 1 3 (br 1 4 (el 18347296030552248577) (br 3 4 (el 18345712322577907722) (br 1 5 (el 18347578742479540353) (br 3 5 (el 18347543902254481418) (bm 929593980))))) (br 1 4 (br 1 5 (el 18347577505528959041) (br 3 5 (el 18347543892964098058) (bm 116199037))) (br 3 4 (br 1 5 (el 18347578716357607434) (br 3 5 (el 18347541908919894026) (bm 929593469))) (bm 116199036)))) (br 3 5 (br 1 3 (br 1 4 (el 18347279847530832129) (br 3 4 (el 18345712322573713419) (br 1 5 (el 18347561460013899905) (bm 930151096)))) (br 1 5 (br 1 4 (el 18347561460013604929) (br 3 4 (el 18347561460013893652) (bm 934088316))) (bm 116193976))) (bm 14597690))) (br 3 4 (br 1 3 (br 2 5 (br 1 4 (el 18347297439578398977) (br 1 5 (el 18347579052061466753) (br 3 5 (el 18347543902250287115) (bm 930412728)))) (br 3 5 (br 1 4 (el 18347278163488299265) (br 1 5 (el 18347560875415591041) (bm 929593980))) (bm 116488952))) (br 1 4 (br 1 5 (br 2 5 (el 18347578914555109441) (br 3 5 (el 18347559638532282433) (bm 934377080))) (br 2 5 (br 3 5 (el 18347543893652099108) (bm 931991165)) (bm 934377080))) (bm 116193464))) (bm 14564922)))) (br 0 3 (br 1 4 (br 1 5 (br 1 3 (br 2 4 (el 18346592343991322656) (br 3 4 (el 18346433739208329248) (br 2 5 (el 18347579086420903968) (br 3 5 (el 18347561287845742624) (bm 925399804))))) (br 2 4 (br 2 5 (el 18347577505600360480) (br 3 5 (el 18347561399850508320) (bm 115899129))) (br 3 4 (br 2 5 (el 18347579060651106336) (br 3 5 (el 18347559638502774816) (bm 931691257))) (bm 115898617)))) (br 2 5 (br 1 3 (br 2 4 (el 18346592343987179552) (br 3 4 (el 18346417434577606688) (br 3 5 (el 18347543885045307424) (bm 934409273)))) (br 3 5 (br 2 4 (el 18347543549366620192) (br 3 4 (el 18347543334483957792) (bm 933732835))) (bm 115674877))) (bm 14487165))) (br 2 4 (br 1 3 (br 1 5 (br 3 4 (el 18346434949387130912) (br 2 5 (el 18347579086416760864) (br 3 5 (el 18347561399854831648) (bm 934409273)))) (br 2 5 (br 3 4 (el 18346416009583382560) (br 3 5 (el 18347543558220795936) (bm 925399804))) (bm 116454461))) (br 3 4 (br 1 5 (br 2 5 (el 18347579059954896928) (br 3 5 (el 18347561399049295904) (bm 931635691))) (br 2 5 (br 3 5 (el 18347541908483592224) (bm 931467005)) (bm 931984445))) (bm 115674876))) (bm 14487164))) (br 1 3 (br 1 4 (br 1 5 (br 2 4 (br 2 5 (el 18347577505596166177) (br 3 5 (el 18347561322507542561) (bm 115931896))) (br 3 4 (br 2 5 (el 18347579052061171745) (br 3 5 (el 18347559638465009697) (bm 931724024))) (bm 115931384))) (br 2 5 (br 3 5 (br 2 4 (el 18347543885062232132) (br 3 4 (el 18347543884239945739) (bm 933820664))) (bm 116301370)) (bm 116199037))) (br 2 4 (br 3 4 (br 1 5 (br 2 5 (el 18347579052061460500) (br 3 5 (el 18347560849293656075) (bm 931724024))) (br 2 5 (br 3 5 (el 18347541908915699723) (bm 930487866)) (bm 929593469))) (bm 116268602)) (bm 116199036))) (bm 14523962)))) (br 2 5 (br 1 2 (br 0 3 (br 1 3 (br 2 4 (br 1 4 (el 18346592343915778305) (br 3 4 (el 18345712322142093322) (br 1 5 (el 18346875055843070081) (br 3 5 (el 18346839870779506698) (bm 933787897))))) (br 1 4 (br 3 4 (el 18346118229975898369) (br 3 5 (el 18347244680443599105) (bm 116801082))) (br 1 5 (br 3 4 (el 18346399842995542145) (br 3 5 (el 18347526292926371969) (bm 934157882))) (bm 116717752)))) (br 1 4 (br 1 5 (br 2 4 (el 18346873818892488769) (br 3 4 (el 18346118229976062017) (br 3 5 (el 18347526292926535745) (bm 934082744)))) (br 3 5 (br 2 4 (el 18346839861925330954) (br 3 4 (el 18346118229976057875) (bm 930183800))) (bm 116723323))) (br 3 4 (br 2 4 (br 1 5 (el 18346875028916224010) (br 3 5 (el 18346838221042302986) (bm 933787771))) (br 1 5 (br 3 5 (el 18347526292926531603) (bm 934082744)) (bm 934082744))) (bm 1810172)))) (br 3 5 (br 1 3 (br 2 4 (br 1 4 (el 18347244413484290305) (br 3 4 (el 18345712322565134346) (br 1 5 (el 18347526026503934081) (bm 927192035)))) (br 3 4 (br 1 4 (el 18347244129882233089) (br 1 5 (el 18347525742901876865) (bm 929289186))) (bm 116685050))) (br 1 5 (br 1 4 (br 2 4 (el 18347526025899954241) (br 3 4 (el 18347525604859107393) (bm 933475298))) (br 2 4 (br 3 4 (el 18347526026491371530) (bm 934088316)) (bm 933475298))) (bm 115899003))) (bm 14487293))) (br 1 5 (br 0 3 (br 1 3 (br 1 4 (br 2 4 (el 18346592343982985249) (br 3 4 (el 18346399842391562273) (br 3 5 (el 18347526292859263009) (bm 934409336)))) (br 2 4 (br 3 4 (el 18346399842982469891) (br 3 5 (el 18347526292913954947) (bm 934157882))) (bm 116723324))) (br 3 5 (br 1 4 (br 2 4 (el 18347526292913952836) (br 3 4 (el 18347526292053919763) (bm 933787897))) (br 2 4 (br 3 4 (el 18347526292913561619) (bm 933564156)) (bm 933787260))) (bm 116760122))) (br 1 3 (br 3 5 (br 1 4 (br 2 4 (el 18347525888461099041) (br 3 4 (el 18347525742297896993) (bm 933471203))) (br 2 4 (br 3 4 (el 18347525742889312267) (bm 930150970)) (bm 934088316))) (bm 115674877)) (bm 116684410))) (bm 14589498))) (bm 1806013))) (br 2 4 (br 1 2 (br 0 3 (br 0 5 (br 1 3 (br 2 5 (br 1 4 (el 18347297473929695489) (br 3 4 (el 18346417452692619274) (br 1 5 (el 18347579086345359489) (br 3 5 (el 18347543901818404874) (bm 931691257))))) (br 1 4 (br 3 4 (el 18346153397067454721) (br 3 5 (el 18347279847535155457) (bm 116801082))) (br 1 5 (br 3 4 (el 18346435010087098497) (br 3 5 (el 18347561460017928321) (bm 930445432))) (bm 116456120)))) (br 1 4 (br 1 5 (br 3 4 (el 18346153397067618369) (br 2 5 (el 18347578948906405953) (br 3 5 (el 18347561460018092097) (bm 931986104)))) (br 3 5 (br 3 4 (el 18346153397067614227) (br 2 5 (el 18347543893668872202) (bm 931986104))) (bm 1810173))) (br 3 4 (br 1 5 (br 2 5 (el 18347579060659765258) (br 3 5 (el 18347561460018087955) (bm 930445432))) (br 2 5 (br 3 5 (el 18347543351592828938) (bm 925961981)) (bm 931986104))) (bm 116461179)))) (br 2 5 (br 1 4 (br 3 4 (br 1 3 (el 18346116873701052673) (br 1 5 (el 18346116874036596801) (br 3 5 (el 18346116874028226570) (bm 934350459)))) (br 3 5 (br 1 3 (el 18347244422338466049) (br 1 5 (el 18347526035089674305) (bm 927192035))) (bm 115899132))) (br 1 5 (br 1 3 (br 3 4 (el 18346399585628344449) (br 3 5 (el 18347526034754130049) (bm 927193057))) (br 3 4 (br 3 5 (el 18347526035081304074) (bm 927187947)) (bm 934350459))) (bm 115899004))) (bm 14552765))) (br 3 4 (br 0 5 (br 1 3 (br 2 5 (br 1 4 (el 18347297438915645697) (br 1 5 (el 18347579051935289473) (br 3 5 (el 18347543902241708042) (bm 927187947)))) (br 3 5 (br 1 4 (el 18347279846729603329) (br 1 5 (el 18347561459749247105) (bm 929285098))) (bm 116423418))) (br 1 4 (br 1 5 (br 2 5 (el 18347578913892356161) (br 3 5 (el 18347561459145431105) (bm 931378154))) (br 2 5 (br 3 5 (el 18347543893651775498) (bm 931991165)) (bm 931378154))) (bm 115898491))) (br 2 5 (br 3 5 (br 1 3 (br 1 4 (el 18347242772567707905) (br 1 5 (el 18347525484494999681) (bm 929593980))) (br 1 4 (br 1 5 (el 18347524247879962689) (bm 931691131)) (bm 933787771))) (bm 116461309)) (bm 116494013))) (bm 14487292))) (br 1 4 (br 0 3 (br 0 5 (br 1 3 (br 1 5 (br 3 4 (el 18346434872044165153) (br 2 5 (el 18347579086412566561) (br 3 5 (el 18347561322511865889) (bm 934409336)))) (br 2 5 (br 3 4 (el 18346417435130749187) (br 3 5 (el 18347543885062234243) (bm 932093498))) (bm 116461181))) (br 3 4 (br 1 5 (br 2 5 (el 18347579060651376652) (br 3 5 (el 18347560771950708755) (bm 931691257))) (br 2 5 (br 3 5 (el 18347543335037591571) (bm 931467005)) (bm 931690109))) (bm 116497978))) (br 1 5 (br 2 5 (br 1 3 (br 3 4 (el 18346398348677861409) (br 3 5 (el 18347525897315274785) (bm 925399804))) (br 3 4 (br 3 5 (el 18347524248010197011) (bm 934082618)) (bm 931985978))) (bm 116421757)) (bm 116423290))) (br 1 3 (br 3 4 (br 0 5 (br 1 5 (br 2 5 (el 18347579051331407905) (br 3 5 (el 18347561321706313761) (bm 931374059))) (br 2 5 (br 3 5 (el 18347543885061840907) (bm 930412602)) (bm 931991165))) (br 1 5 (br 2 5 (br 3 5 (el 18347524247544516641) (bm 931467005)) (bm 931951741)) (bm 931953274))) (bm 115674876)) (bm 116422266))) (bm 14556730))) (bm 1806012)))
noncomputable def t61_2 : Tr := (br 1 4 (br 2 4 (br 3 4 (br 0 5 (br 1 5 (br 0 2 (br 1 2 (el 18343234632813774912) (br 1 3 (el 18343234495576082496) (br 2 5 (el 18343234907083411520) (br 3 5 (el 18343234898527180864) (bm 116571770))))) (br 0 3 (br 1 2 (el 18343234564262070304) (br 1 3 (el 18343233877134346272) (br 2 5 (el 18343234907117047840) (br 3 5 (el 18343234898493478944) (bm 932574265))))) (br 1 2 (br 2 5 (el 18343234907045646401) (br 3 5 (el 18343234898522986561) (bm 116571706))) (br 1 3 (br 2 5 (el 18343234907112853537) (br 3 5 (el 18343234898455713825) (bm 932574328))) (bm 14523962))))) (br 1 2 (br 1 3 (br 0 2 (el 18343234495375214656) (br 0 3 (el 18343233877067696160) (br 2 5 (el 18343234769606693121) (br 3 5 (el 18343234761016760577) (bm 932093498))))) (br 3 5 (br 0 2 (el 18343234614933852224) (br 0 3 (el 18343234545912467488) (br 2 5 (el 18343234889945661450) (bm 932542072)))) (bm 14601851))) (br 2 5 (br 1 3 (br 0 2 (el 18343234495571857472) (br 0 3 (el 18343233877130203168) (br 3 5 (el 18343234889941467147) (bm 932093498)))) (br 3 5 (br 0 2 (el 18343234889811267648) (br 0 3 (el 18343234889509359648) (bm 932552250))) (bm 115931963))) (bm 14601850)))) (br 0 2 (br 0 3 (br 1 5 (br 1 2 (el 18343234564094298368) (br 1 3 (el 18343233877100792064) (br 2 5 (el 18343234838363934976) (br 3 5 (el 18343234829774002432) (bm 932476538))))) (br 1 2 (br 1 3 (el 18343233876899924224) (br 3 5 (el 18343234545912385792) (bm 116559483))) (br 2 5 (br 1 3 (el 18343233877096567040) (br 3 5 (el 18343234820789801216) (bm 932476027))) (bm 116559482)))) (br 3 5 (br 1 3 (br 1 2 (el 18343234468569420033) (br 1 5 (el 18343234468569518113) (br 2 5 (el 18343234468569516050) (bm 932548218)))) (br 1 5 (br 1 2 (el 18343234606343917633) (br 2 5 (el 18343234881355745298) (bm 932542072))) (bm 116563515))) (bm 14601787))) (br 2 5 (br 1 2 (br 0 3 (br 1 3 (el 18343233877058801921) (br 1 5 (el 18343234564253569089) (br 3 5 (el 18343234545912463370) (bm 932515451)))) (br 3 5 (br 1 3 (el 18343234743446819073) (br 1 5 (el 18343234881221316673) (bm 932508731))) (bm 115899195))) (br 1 5 (br 0 3 (br 1 3 (el 18343233877126008865) (br 3 5 (el 18343234881351550995) (bm 932552250))) (br 1 3 (br 3 5 (el 18343234880885870625) (bm 925399867)) (bm 932476538))) (bm 116563514))) (bm 14601786)))) (br 3 5 (br 0 3 (br 1 3 (br 2 5 (br 0 2 (el 18346610477305467136) (br 1 2 (el 18346610477267702017) (br 0 5 (el 18346610477339103264) (br 1 5 (el 18346610477334908961) (bm 930258490))))) (br 0 2 (br 1 2 (el 18346610477108824320) (br 1 5 (el 18346610477309692160) (bm 116801146))) (br 0 5 (br 1 2 (el 18346610477276596256) (br 1 5 (el 18346610477343246368) (bm 934409273))) (bm 116801082)))) (br 1 5 (br 1 2 (br 0 2 (el 18346892639279909120) (br 0 5 (el 18346892639447681056) (br 2 5 (el 18346892639439179841) (bm 934387258)))) (br 2 5 (br 0 2 (el 18347455863502967040) (br 0 5 (el 18347596669744435232) (bm 934387258))) (bm 116801146))) (bm 14601851))) (br 0 5 (br 0 2 (br 1 3 (br 1 2 (el 18346751833072470080) (br 1 5 (el 18346751833273337920) (br 2 5 (el 18346751833269112896) (bm 934383226)))) (br 1 5 (br 1 2 (el 18347033445487740992) (br 2 5 (el 18347596669710798912) (bm 932542009))) (bm 116161337))) (br 2 5 (br 1 2 (br 1 3 (el 18347315057257369857) (br 1 5 (el 18347596669673033793) (bm 929594169))) (br 1 3 (br 1 5 (el 18347596669740240929) (bm 930258490)) (bm 934387258))) (bm 116801082))) (bm 14601787))) (bm 1818429))) (br 2 5 (br 3 4 (br 0 2 (br 1 2 (br 3 5 (br 0 3 (el 18346049295679230208) (br 1 3 (el 18346049218336264449) (br 0 5 (el 18346049364700696640) (br 1 5 (el 18346049356110762049) (bm 934377080))))) (br 0 3 (br 1 3 (el 18346048626130159872) (br 1 5 (el 18346049313324534016) (bm 116797051))) (br 0 5 (br 1 3 (el 18346049244605450304) (br 1 5 (el 18346049382044010560) (bm 934377017))) (bm 116796987)))) (br 1 5 (br 1 3 (br 0 3 (el 18346330101307738368) (br 0 5 (el 18346330719783028800) (br 3 5 (el 18346330693313073185) (bm 934354491)))) (br 3 5 (br 0 3 (el 18347455854913034496) (br 0 5 (el 18347596661154568256) (bm 934377080))) (bm 116571770))) (bm 14601850))) (br 0 5 (br 1 2 (br 0 3 (br 1 3 (el 18346189363786287136) (br 1 5 (el 18346190050980661280) (br 3 5 (el 18346190033167667232) (bm 934350459)))) (br 3 5 (br 1 3 (el 18347315048667437313) (br 1 5 (el 18347596661150373953) (bm 934377080))) (bm 116571706))) (br 1 5 (br 0 3 (br 1 3 (el 18346470838829647904) (br 3 5 (el 18347596661120866336) (bm 932574265))) (br 1 3 (br 3 5 (el 18347596661083101217) (bm 932574328)) (bm 934377080))) (bm 115899193))) (bm 14601786))) (br 3 5 (br 0 2 (br 1 2 (br 0 3 (br 1 3 (el 18347173426525374720) (br 1 5 (el 18347455588696459520) (bm 116797051))) (br 0 5 (br 1 3 (el 18347314782489020480) (br 1 5 (el 18347596394904291392) (bm 934377017))) (bm 116796987))) (br 1 3 (br 1 5 (br 0 3 (el 18347454901702953216) (br 0 5 (el 18347596257666598976) (bm 934354491))) (bm 116801146)) (bm 116801146))) (br 0 3 (br 0 5 (br 1 2 (br 1 3 (el 18347314164181501984) (br 1 5 (el 18347596326352586784) (bm 931691131))) (br 1 3 (br 1 5 (el 18347595639224862752) (bm 934409273)) (bm 934409273))) (bm 116801082)) (bm 116801082))) (bm 14561021))) (bm 1814333))) (br 1 5 (br 1 2 (br 1 3 (br 2 4 (br 3 4 (br 0 5 (br 0 2 (el 18345767770165348416) (br 0 3 (el 18345767151857829920) (br 2 5 (el 18345768044397088897) (br 3 5 (el 18345768035807156353) (bm 930487866))))) (br 0 2 (br 0 3 (el 18345767151690057984) (br 3 5 (el 18345767743359815809) (bm 116792891))) (br 2 5 (br 0 3 (el 18345767151849197697) (br 3 5 (el 18345768018237214849) (bm 934343739))) (bm 116792890)))) (br 3 5 (br 0 3 (br 0 2 (el 18346891952085272832) (br 0 5 (el 18346891952253044768) (br 2 5 (el 18346891952244412545) (bm 934157882)))) (br 0 5 (br 0 2 (el 18347033308048918592) (br 2 5 (el 18347596532234080385) (bm 930151096))) (bm 116792891))) (bm 14556925))) (br 2 5 (br 0 2 (br 3 4 (br 0 3 (el 18346330101106608384) (br 0 5 (el 18346330719581898816) (br 3 5 (el 18346330693312974977) (bm 933895739)))) (br 3 5 (br 0 3 (el 18347454901501823232) (br 0 5 (el 18347596257465468992) (bm 933895739))) (bm 116006653))) (br 0 5 (br 0 3 (br 3 4 (el 18346470838762735648) (br 3 5 (el 18347595639157950496) (bm 925961981))) (br 3 4 (br 3 5 (el 18347596523644147841) (bm 930487866)) (bm 934157882))) (bm 116792890))) (bm 14556861))) (br 3 4 (br 3 5 (br 0 3 (br 2 4 (br 0 2 (el 18346892621097996544) (br 0 5 (el 18346892621098078240) (br 2 5 (el 18346892621098074122) (bm 934387258)))) (br 2 5 (br 0 2 (el 18347455571051155712) (br 0 5 (el 18347596308539592736) (bm 934387258))) (bm 116498109))) (br 0 5 (br 0 2 (br 2 4 (el 18347033427607818304) (br 2 5 (el 18347596377560977472) (bm 931499709))) (br 2 4 (br 2 5 (el 18347596652573048842) (bm 932542072)) (bm 934377080))) (bm 116792891))) (bm 14601851)) (bm 14601851))) (br 2 4 (br 2 5 (br 1 3 (br 0 2 (br 3 4 (br 0 3 (el 18346330101303513344) (br 0 5 (el 18346330719778803776) (br 3 5 (el 18346330693313071122) (bm 934354491)))) (br 3 5 (br 0 3 (el 18347454901698728192) (br 0 5 (el 18347596257662373952) (bm 934354491))) (bm 116465405))) (br 0 5 (br 0 3 (br 3 4 (el 18346470838825504800) (br 3 5 (el 18347595639220719648) (bm 931467005))) (br 3 4 (br 3 5 (el 18347596652568854539) (bm 930487866)) (bm 934157882))) (bm 116792890))) (br 3 4 (br 3 5 (br 0 2 (br 0 3 (el 18347455845928833280) (br 0 5 (el 18347596652438655040) (bm 934354491))) (br 0 3 (br 0 5 (el 18347596652136747040) (bm 934387258)) (bm 934387258))) (bm 115931963)) (bm 115931963))) (bm 14601850)) (bm 14601850))) (bm 1810237)))
noncomputable def t61_3 : Tr := (br 4 5 (br 0 2 (br 1 4 t61_0 (br 1 3 (br 1 2 (br 1 5 (br 0 3 (br 0 4 (br 2 4 (el 18346875055683930368) (br 3 4 (el 18346294238670752000) (br 2 5 (el 18347438279978387712) (br 3 5 (el 18347420687796537600) (bm 116783226))))) (br 0 5 (br 2 4 (el 18347015861891762304) (br 3 4 (el 18346435044878583936) (br 2 5 (el 18347579086186219648) (br 3 5 (el 18347561494004369536) (bm 925924090))))) (br 2 4 (br 3 4 (el 18345836635675431041) (br 3 5 (el 18346963084801216641) (bm 116783224))) (br 2 5 (br 3 4 (el 18346399860506497153) (br 3 5 (el 18347526309632282753) (bm 928054008))) (bm 116750456))))) (br 0 4 (br 0 5 (br 2 4 (el 18347015793172285504) (br 3 4 (el 18346294238972741696) (br 2 5 (el 18347579017466742848) (br 3 5 (el 18347561494306359360) (bm 929289697))))) (br 3 5 (br 2 4 (el 18346963076551020673) (br 3 4 (el 18346294238959917185) (br 2 5 (el 18347526301516304513) (bm 930151096)))) (bm 1806077))) (br 3 4 (br 0 5 (br 2 4 (el 18347015827104469121) (br 2 5 (el 18347579052069752961) (br 3 5 (el 18347561494293534849) (bm 930445432)))) (br 3 5 (br 2 4 (el 18346962534542086273) (br 2 5 (el 18347525759373152385) (bm 929289697))) (bm 115740413))) (bm 14556731)))) (br 0 4 (br 3 4 (br 2 4 (br 0 3 (el 18345712322142015744) (br 0 5 (el 18345712322444005440) (br 3 5 (el 18345712322430916866) (bm 116792891)))) (br 2 5 (br 0 3 (el 18346276646484709632) (br 0 5 (el 18346276646786699328) (br 3 5 (el 18346276646773872770) (bm 933895739)))) (bm 14593660))) (br 3 5 (br 0 3 (br 2 4 (el 18346839870779429120) (br 2 5 (el 18347403095610495232) (bm 116750585))) (br 0 5 (br 2 4 (el 18346980677289250880) (br 2 5 (el 18347543902120316992) (bm 931953337))) (bm 116717816))) (bm 14597756))) (br 0 5 (br 0 3 (br 2 4 (br 3 4 (el 18345854227861475456) (br 3 5 (el 18346980676987261056) (bm 116783161))) (br 2 5 (br 3 4 (el 18346417452692541568) (br 3 5 (el 18347543901818327168) (bm 928021241))) (bm 116750393))) (br 3 4 (br 3 5 (br 2 4 (el 18346980677276162306) (br 2 5 (el 18347543902107490434) (bm 931953337))) (bm 116456184)) (bm 116792891))) (bm 14589500)))) (br 2 4 (br 1 5 (br 0 3 (br 2 5 (br 0 4 (el 18347438280175292672) (br 3 4 (el 18346399860506593298) (br 0 5 (el 18347579086383124608) (br 3 5 (el 18347526309632378898) (bm 931724024))))) (br 0 4 (br 3 4 (el 18346294211898775808) (br 3 5 (el 18347420662366476544) (bm 116801146))) (br 0 5 (br 3 4 (el 18346435018677033088) (br 3 5 (el 18347561468607862912) (bm 930445369))) (bm 116456120)))) (br 0 4 (br 0 5 (br 3 4 (el 18346294211898923072) (br 2 5 (el 18347579017663647808) (br 3 5 (el 18347561468608010304) (bm 929285098)))) (br 3 5 (br 3 4 (el 18346294211898916875) (br 2 5 (el 18347526301516400658) (bm 930151096))) (bm 1806077))) (br 3 4 (br 0 5 (br 2 5 (el 18347579052069849106) (br 3 5 (el 18347561468608004107) (bm 930445432))) (br 2 5 (br 3 5 (el 18347525759373248530) (bm 927338237)) (bm 929285098))) (bm 116465211)))) (br 2 5 (br 0 4 (br 3 4 (br 0 3 (el 18346275272094945536) (br 0 5 (el 18346275272396935232) (br 3 5 (el 18346275272384337938) (bm 934354491)))) (br 3 5 (br 0 3 (el 18347402820732358912) (br 0 5 (el 18347543627242180672) (bm 933820664))) (bm 115931900))) (br 0 5 (br 0 3 (br 3 4 (el 18346417177814405248) (br 3 5 (el 18347543626940190848) (bm 927455200))) (br 3 4 (br 3 5 (el 18347543627229583378) (bm 931724024)) (bm 934354491))) (bm 116727356))) (bm 14556861))) (bm 1810108))) (br 3 4 (br 1 5 (br 1 2 (br 0 3 (br 3 5 (br 0 4 (el 18347420688123468032) (br 2 4 (el 18346963085127883010) (br 0 5 (el 18347561494331299968) (br 2 5 (el 18347526309959211138) (bm 931986104))))) (br 0 4 (br 2 4 (el 18346875028916146432) (br 2 5 (el 18347438254418301184) (bm 116488953))) (br 0 5 (br 2 4 (el 18347015835694403712) (br 2 5 (el 18347579060659687552) (bm 930445369))) (bm 116456184)))) (br 0 4 (br 0 5 (br 2 4 (el 18347015766404501568) (br 2 5 (el 18347578991906656320) (br 3 5 (el 18347561494365001792) (bm 934377017)))) (br 3 5 (br 2 4 (el 18346963076537950466) (br 2 5 (el 18347526301503824002) (bm 934377080))) (bm 116497981))) (bm 14556731))) (br 2 4 (br 0 3 (br 2 5 (br 0 4 (el 18347438253746983168) (br 0 5 (el 18347579060525240448) (br 3 5 (el 18347526310093428754) (bm 931724024)))) (br 3 5 (br 0 4 (el 18347420661560940800) (br 0 5 (el 18347561468339198080) (bm 931986104))) (bm 116456186))) (br 0 4 (br 0 5 (br 2 5 (el 18347578991235338304) (br 3 5 (el 18347561467768920128) (bm 931639786))) (br 2 5 (br 3 5 (el 18347526301503496210) (bm 931995197)) (bm 931986104))) (bm 116465211))) (bm 14524092))) (br 3 5 (br 1 2 (br 0 3 (br 0 4 (br 2 4 (el 18346838221042225408) (br 2 5 (el 18347402545384919296) (bm 116193980))) (br 0 5 (br 2 4 (el 18346980126761685120) (br 2 5 (el 18347543351592751232) (bm 929551840))) (bm 116760124))) (br 0 4 (br 0 5 (br 2 4 (el 18346978958832570432) (br 2 5 (el 18347543283175264320) (bm 925661884))) (bm 116792891)) (bm 116792891))) (br 2 4 (br 2 5 (br 0 3 (br 0 4 (el 18347401170995155200) (br 0 5 (el 18347543076714614912) (bm 934092348))) (br 0 4 (br 0 5 (el 18347541908785500224) (bm 934354491)) (bm 934354491))) (bm 116498109)) (bm 116760252))) (bm 14556925))) (bm 1810172)))) t61_1) (br 0 4 t61_2 (br 0 5 (br 0 2 (br 0 3 (br 1 4 (br 2 4 (br 3 4 (br 1 5 (br 1 2 (el 18345627101396338816) (br 1 3 (el 18345626414402832512) (br 2 5 (el 18345627375665975424) (br 3 5 (el 18345627367076042880) (bm 934311546))))) (br 1 2 (br 1 3 (el 18345626414201964672) (br 3 5 (el 18345627083214426240) (bm 116788859))) (br 2 5 (br 1 3 (el 18345626414398607488) (br 3 5 (el 18345627358091841664) (bm 934311035))) (bm 116788858)))) (br 3 5 (br 1 3 (br 1 2 (el 18346751214597179520) (br 1 5 (el 18346751214798047360) (br 2 5 (el 18346751214793822336) (bm 934153850)))) (br 1 5 (br 1 2 (el 18347033376768264320) (br 2 5 (el 18347596600991322240) (bm 931378154))) (bm 116423291))) (bm 14552829))) (br 2 5 (br 1 2 (br 3 4 (br 1 3 (el 18346189363618515072) (br 1 5 (el 18346190050812889216) (br 3 5 (el 18346190033167585408) (bm 933891707)))) (br 3 5 (br 1 3 (el 18347314164013729920) (br 1 5 (el 18347596326184814720) (bm 928021115))) (bm 116002557))) (br 1 5 (br 1 3 (br 3 4 (el 18346470838796093568) (br 3 5 (el 18347595639191308416) (bm 925503229))) (br 3 4 (br 3 5 (el 18347596592401389696) (bm 934082618)) (bm 934311546))) (bm 116423290))) (bm 14552765))) (br 1 5 (br 1 2 (br 1 3 (br 2 4 (br 3 4 (el 18345907889178413184) (br 3 5 (el 18347032689573628032) (bm 115740413))) (br 2 5 (br 3 4 (el 18346470838594963584) (br 3 5 (el 18347595638990178432) (bm 927338237))) (bm 115740349))) (br 3 4 (br 3 5 (br 2 4 (el 18347033358586351744) (br 2 5 (el 18347596308539510912) (bm 929435325))) (bm 116423417)) (bm 116788859))) (br 2 4 (br 2 5 (br 1 3 (br 3 4 (el 18346470838791868544) (br 3 5 (el 18347595639187083392) (bm 927338237))) (br 3 4 (br 3 5 (el 18347596583417188480) (bm 927449579)) (bm 934311035))) (bm 116423353)) (bm 116788858))) (bm 14552701))) (br 3 4 (br 3 5 (br 1 3 (br 1 4 (br 2 4 (br 1 2 (el 18346751806266675457) (br 1 5 (el 18346751806266773537) (br 2 5 (el 18346751806266771474) (bm 934383226)))) (br 2 5 (br 1 2 (el 18347314756219834625) (br 1 5 (el 18347596231196643361) (bm 931953274))) (bm 116494013))) (br 1 5 (br 1 2 (br 2 4 (el 18347033281243385985) (br 2 5 (el 18347596231196545153) (bm 925994685))) (br 2 4 (br 2 5 (el 18347596231196641298) (bm 931953337)) (bm 934383226))) (bm 116493949))) (br 1 4 (br 1 5 (br 1 2 (br 2 4 (el 18347033419017883713) (br 2 5 (el 18347596368971042881) (bm 931499709))) (br 2 4 (br 2 5 (el 18347596643983132690) (bm 932542072)) (bm 934377080))) (bm 116563515)) (bm 116792891))) (bm 14601787)) (bm 14601787))) (br 2 4 (br 2 5 (br 1 2 (br 0 3 (br 1 4 (br 3 4 (br 1 3 (el 18346189363777392897) (br 1 5 (el 18346190050972160065) (br 3 5 (el 18346190033167663114) (bm 934350459)))) (br 3 5 (br 1 3 (el 18347314164172607745) (br 1 5 (el 18347596326344085569) (bm 931691131))) (bm 116461309))) (br 1 5 (br 1 3 (br 3 4 (el 18346470838754103425) (br 3 5 (el 18347595639149318273) (bm 925961981))) (br 3 4 (br 3 5 (el 18347596308539588618) (bm 931691257)) (bm 934350459))) (bm 116461181))) (br 3 4 (br 3 5 (br 1 3 (br 1 4 (el 18347315031097495809) (br 1 5 (el 18347596506074206337) (bm 931991165))) (br 1 4 (br 1 5 (el 18347596643848704065) (bm 932508731)) (bm 934343739))) (bm 115899195)) (bm 115899195))) (br 1 4 (br 1 5 (br 0 3 (br 1 3 (br 3 4 (el 18346470838821310497) (br 3 5 (el 18347595639216525345) (bm 931467005))) (br 3 4 (br 3 5 (el 18347596643978938387) (bm 932552250)) (bm 934387258))) (br 1 3 (br 3 4 (br 3 5 (el 18347596643513258017) (bm 925399867)) (bm 925399867)) (bm 934311546))) (bm 116563514)) (bm 116792890))) (bm 14601786)) (bm 14601786))) (bm 1806141))))
noncomputable def t61_4 : Tr := (br 0 2 (br 1 2 (br 3 4 (br 0 5 (br 1 5 (br 0 3 (br 1 3 (el 18345908713006827648) (br 1 4 (el 18345627375468939392) (br 3 5 (el 18347596583819939968) (br 4 5 (el 18347578785647431808) (bm 116226873))))) (br 0 4 (br 1 3 (el 18345768044237948992) (br 1 4 (el 18343234906886375488) (br 3 5 (el 18347596652572971072) (br 4 5 (el 18347578716357529664) (bm 927759161))))) (br 1 3 (br 3 5 (el 18347596506476974209) (br 4 5 (el 18347578777057497217) (bm 116226872))) (br 1 4 (br 3 5 (el 18347596643983036481) (br 4 5 (el 18347578639014563905) (bm 927791928))) (bm 116455096))))) (br 1 3 (br 1 4 (br 0 3 (el 18345627238030379136) (br 0 4 (el 18343234769447815232) (br 3 5 (el 18347315031500263681) (br 4 5 (el 18347297164037853441) (bm 932509368))))) (br 4 5 (br 0 3 (el 18345854228263735424) (br 0 4 (el 18345712322577829952) (br 3 5 (el 18347543902241904706) (bm 934115448)))) (bm 1810237))) (br 3 5 (br 1 4 (br 0 3 (el 18345627358494593152) (br 0 4 (el 18343234889945583680) (br 4 5 (el 18347543893517557826) (bm 932509368)))) (br 4 5 (br 0 3 (el 18347543077117366400) (br 0 4 (el 18347541908919816256) (bm 934344376))) (bm 115973949))) (bm 14528125)))) (br 0 3 (br 0 4 (br 1 5 (br 1 3 (el 18345767975518472448) (br 1 4 (el 18343234838166898944) (br 3 5 (el 18347455846331584768) (br 4 5 (el 18347437978869174528) (bm 931647962))))) (br 1 3 (br 1 4 (el 18343234700728338688) (br 4 5 (el 18345712322544275712) (bm 14585468))) (br 3 5 (br 1 4 (el 18343234821192552704) (br 4 5 (el 18347401171397906688) (bm 927791676))) (bm 116226617)))) (br 4 5 (br 1 4 (br 1 3 (el 18345553924150399233) (br 1 5 (el 18345553924217507905) (br 3 5 (el 18345553924209219650) (bm 934311609)))) (br 1 5 (br 1 3 (el 18345836636077691009) (br 3 5 (el 18347526310093625410) (bm 934115448))) (bm 14589500))) (bm 1806141))) (br 3 5 (br 1 3 (br 0 4 (br 1 4 (el 18343234743849586945) (br 1 5 (el 18345768018639982721) (br 4 5 (el 18345712322565331010) (bm 933858940)))) (br 4 5 (br 1 4 (el 18347242772970475777) (br 1 5 (el 18347525484897767553) (bm 927758972))) (bm 115969853))) (br 1 5 (br 0 4 (br 1 4 (el 18343234881355649089) (br 4 5 (el 18347526301369278530) (bm 934344376))) (br 1 4 (br 4 5 (el 18347524248014295105) (bm 927305533)) (bm 933479386))) (bm 116717240))) (bm 14528061)))) (br 3 5 (br 0 3 (br 1 3 (br 4 5 (br 0 4 (el 18347403096013017344) (br 1 4 (el 18347244697619140865) (br 0 5 (el 18347543902220849280) (br 1 5 (el 18347526310034804865) (bm 932018808))))) (br 0 4 (br 1 4 (el 18347174250890660096) (br 1 5 (el 18347455725867108608) (bm 116502141))) (br 0 5 (br 1 4 (el 18347314988379015296) (br 1 5 (el 18347596463355463808) (bm 927862397))) (bm 116502077)))) (br 1 4 (br 1 5 (br 0 4 (el 18347455863305931008) (br 0 5 (el 18347596600794286208) (br 4 5 (el 18347526310101913665) (bm 931765821)))) (br 4 5 (br 0 4 (el 18347403086756188416) (br 0 5 (el 18347543893534445696) (bm 932018808))) (bm 116226873))) (bm 14528124))) (br 0 4 (br 1 3 (br 0 5 (br 1 4 (el 18347315057098491968) (br 1 5 (el 18347596532074940480) (br 4 5 (el 18347543902254403648) (bm 931761789)))) (br 4 5 (br 1 4 (el 18347244688362311937) (br 1 5 (el 18347526301381955713) (bm 932018808))) (bm 116226872))) (br 1 4 (br 0 5 (br 1 5 (el 18347596669513762880) (br 4 5 (el 18347543892964020288) (bm 927759161))) (br 1 5 (br 4 5 (el 18347526300777975873) (bm 927791928)) (bm 932018808))) (bm 115969660))) (bm 14528060))) (br 4 5 (br 0 3 (br 1 3 (br 0 4 (br 1 4 (el 18347155292905015552) (br 1 5 (el 18347438004832045312) (bm 116764284))) (br 0 5 (br 1 4 (el 18347297198624475264) (br 1 5 (el 18347578811039877248) (bm 934115385))) (bm 116764220))) (br 1 4 (br 1 5 (br 0 4 (el 18347436767881332992) (br 0 5 (el 18347578673600792704) (bm 933862972))) (bm 116502141)) (bm 116764284))) (br 0 4 (br 0 5 (br 1 3 (br 1 4 (el 18347296030393370688) (br 1 5 (el 18347578742320400448) (bm 927758972))) (br 1 4 (br 1 5 (el 18347577505369688128) (bm 931761789)) (bm 933858940))) (bm 116502077)) (bm 116764220))) (bm 14528317)))) (br 1 3 (br 1 4 (br 1 5 (br 0 3 (br 4 5 (br 0 4 (el 18347436768082594048) (br 3 4 (el 18345553924217606177) (br 0 5 (el 18347578673802053760) (br 3 5 (el 18347526310102011937) (bm 934092348))))) (br 0 4 (br 3 4 (el 18343234838368160000) (br 3 5 (el 18347455863507192064) (bm 116203325))) (br 0 5 (br 3 4 (el 18345627375670200448) (br 3 5 (el 18347596600995547264) (bm 929626173))) (bm 1806141)))) (br 0 4 (br 0 5 (br 3 4 (el 18343234907087636544) (br 3 5 (el 18347596669715023936) (br 4 5 (el 18347577505570949184) (bm 925470525)))) (br 3 5 (br 3 4 (el 18343234881355747361) (br 4 5 (el 18347526300778074145) (bm 929626936))) (bm 116203069))) (br 3 4 (br 0 5 (br 3 5 (el 18347596643983134753) (br 4 5 (el 18347578639014662177) (bm 929626936))) (br 3 5 (br 4 5 (el 18347524248014393377) (bm 925470525)) (bm 929626173))) (bm 116203068)))) (br 3 5 (br 0 3 (br 3 4 (br 0 4 (el 18343234821188294912) (br 0 5 (el 18345627358490335360) (br 4 5 (el 18345553924209217571) (bm 934092348)))) (br 4 5 (br 0 4 (el 18347403078833152256) (br 0 5 (el 18347543885074817152) (bm 932018808))) (bm 116801146))) (br 0 5 (br 0 4 (br 3 4 (el 18343234889941473344) (br 4 5 (el 18347543885074538560) (bm 932509242))) (br 3 4 (br 4 5 (el 18347543885074808844) (bm 932509368)) (bm 934092348))) (bm 116717240))) (bm 14597754))) (br 3 4 (br 1 5 (br 0 3 (br 3 5 (br 0 4 (el 18347455846327326976) (br 0 5 (el 18347596583815682176) (br 4 5 (el 18347526310093623331) (bm 931995197)))) (br 4 5 (br 0 4 (el 18347438262995427584) (br 0 5 (el 18347579069237092480) (bm 934115448))) (bm 116571770))) (br 0 4 (br 0 5 (br 3 5 (el 18347596652568860736) (br 4 5 (el 18347579000483782720) (bm 934344250))) (br 3 5 (br 4 5 (el 18347526301508012052) (bm 934344376)) (bm 931995197))) (bm 116455096))) (br 3 5 (br 4 5 (br 0 3 (br 0 4 (el 18347401171393648896) (br 0 5 (el 18347543077113108608) (bm 934092348))) (br 0 4 (br 0 5 (el 18347541908915705920) (bm 934344376)) (bm 934344376))) (bm 116203325)) (bm 116456186))) (bm 14564986))) (bm 1810107))) (br 0 3 (br 1 2 (br 0 4 (br 0 5 (br 1 3 (br 4 5 (br 1 4 (el 18347296030561142816) (br 3 4 (el 18345712322577911840) (br 1 5 (el 18347578742488172576) (br 3 5 (el 18347543902254485536) (bm 929593980))))) (br 1 4 (br 3 4 (el 18343234769615587360) (br 3 5 (el 18347315057266264096) (bm 116199229))) (br 1 5 (br 3 4 (el 18345768044405721120) (br 3 5 (el 18347596532242712608) (bm 929593469))) (bm 1810237)))) (br 1 4 (br 1 5 (br 3 4 (el 18343234907054147616) (br 3 5 (el 18347596669681535008) (br 4 5 (el 18347577505537460256) (bm 925699901)))) (br 3 5 (br 3 4 (el 18343234889945665568) (br 4 5 (el 18347543892964102176) (bm 929594169))) (bm 116199037))) (br 3 4 (br 1 5 (br 3 5 (el 18347596652573052960) (br 4 5 (el 18347578716357611552) (bm 929594169))) (br 3 5 (br 4 5 (el 18347541908919898144) (bm 925699901)) (bm 929593469))) (bm 116199036)))) (br 3 5 (br 1 3 (br 3 4 (br 1 4 (el 18343234743845329153) (br 1 5 (el 18345768018635724929) (br 4 5 (el 18345712322565328931) (bm 934088316)))) (br 4 5 (br 1 4 (el 18347244680439275777) (br 1 5 (el 18347526292922343553) (bm 932018808))) (bm 116801082))) (br 1 5 (br 1 4 (br 3 4 (el 18343234881351555137) (br 4 5 (el 18347526292922048577) (bm 934387258))) (br 3 4 (br 4 5 (el 18347526292922337300) (bm 934344376)) (bm 934088316))) (bm 116717240))) (bm 14597690))) (br 3 4 (br 0 5 (br 1 3 (br 3 5 (br 1 4 (el 18347315031496005889) (br 1 5 (el 18347596506472716417) (br 4 5 (el 18347543902241902627) (bm 931991165)))) (br 4 5 (br 1 4 (el 18347297456749830401) (br 1 5 (el 18347579069232898177) (bm 934115448))) (bm 116571706))) (br 1 4 (br 1 5 (br 3 5 (el 18347596643978942529) (br 4 5 (el 18347578931726540865) (bm 932552250))) (br 3 5 (br 4 5 (el 18347543893660483596) (bm 932509368)) (bm 931991165))) (bm 116455096))) (br 3 5 (br 4 5 (br 1 3 (br 1 4 (el 18347242772966217985) (br 1 5 (el 18347525484893509761) (bm 929593980))) (br 1 4 (br 1 5 (el 18347524248010201153) (bm 931386330)) (bm 933479386))) (bm 116199229)) (bm 116423418))) (bm 14564922))) (br 1 3 (br 0 4 (br 0 5 (br 1 4 (br 1 5 (br 3 4 (el 18343234907121190944) (br 3 5 (el 18347596669748578336) (br 4 5 (el 18347577505604503584) (bm 929369917)))) (br 3 5 (br 3 4 (el 18343234889941325856) (br 4 5 (el 18347543885040984096) (bm 934409273))) (bm 115899129))) (br 3 4 (br 1 5 (br 3 5 (el 18347596652568713248) (br 4 5 (el 18347579069203259424) (bm 932574265))) (br 3 5 (br 4 5 (el 18347541908915558432) (bm 929369917)) (bm 931635691))) (bm 115898617))) (br 1 5 (br 3 5 (br 1 4 (br 3 4 (el 18343234881351391265) (br 4 5 (el 18347526292854939681) (bm 934409336))) (br 3 4 (br 4 5 (el 18347526292645126179) (bm 934344376)) (bm 933787897))) (bm 115931896)) (bm 116717240))) (br 1 4 (br 3 4 (br 0 5 (br 1 5 (br 3 5 (el 18347596643978778657) (br 4 5 (el 18347579069165494305) (bm 932574328))) (br 3 5 (br 4 5 (el 18347543884793405475) (bm 932509368)) (bm 931691257))) (br 1 5 (br 3 5 (br 4 5 (el 18347524248010037281) (bm 929369917)) (bm 931374059)) (bm 931386330))) (bm 115931384)) (bm 116455096))) (bm 14487163))) (bm 1806011)))
noncomputable def t61_5 : Tr := (br 2 4 (br 2 5 t61_4 (br 3 5 (br 0 2 (br 1 2 (br 3 4 (br 0 3 (br 1 3 (br 4 5 (br 0 4 (el 18345712322540017920) (br 1 4 (el 18345553924146141441) (br 0 5 (el 18345854228259477632) (br 1 5 (el 18345836636073433217) (bm 934115448))))) (br 0 4 (br 1 4 (el 18343234692008380672) (br 1 5 (el 18345767966798514432) (bm 116764284))) (br 0 5 (br 1 4 (el 18345627229310421120) (br 1 5 (el 18345908704286869632) (bm 934115385))) (bm 116764220)))) (br 1 5 (br 1 4 (br 0 4 (el 18343234829782485248) (br 0 5 (el 18345627367084525696) (br 4 5 (el 18345553924213413953) (bm 933862972)))) (br 4 5 (br 0 4 (el 18347420679533535488) (br 0 5 (el 18347561485775200384) (bm 934115448))) (bm 116567675))) (bm 14593659))) (br 0 5 (br 1 3 (br 0 4 (br 1 4 (el 18343234761029847104) (br 1 5 (el 18345768035819980864) (br 4 5 (el 18345712322573719616) (bm 933858940)))) (br 4 5 (br 1 4 (el 18347279873287938305) (br 1 5 (el 18347561485771006081) (bm 934115448))) (bm 116567611))) (br 1 5 (br 0 4 (br 1 4 (el 18343234898535516224) (br 4 5 (el 18347561485741367360) (bm 932542009))) (br 1 4 (br 4 5 (el 18347561485703602241) (bm 932542072)) (bm 934115448))) (bm 116749881))) (bm 14593595))) (br 4 5 (br 0 3 (br 1 3 (br 0 4 (br 1 4 (el 18347139066526959872) (br 1 5 (el 18347420679546341632) (bm 116750585))) (br 0 5 (br 1 4 (el 18347279873305217152) (br 1 5 (el 18347561485787728000) (bm 934115385))) (bm 116750584))) (br 1 4 (br 1 5 (br 0 4 (el 18347420678942230784) (br 0 5 (el 18347561485720488064) (bm 931986104))) (bm 116750585)) (bm 116764284))) (br 0 4 (br 0 5 (br 1 3 (br 1 4 (el 18347279872734791744) (br 1 5 (el 18347561485754173504) (bm 931639786))) (br 1 4 (br 1 5 (el 18347561485150062656) (bm 931953337)) (bm 933858940))) (bm 116750584)) (bm 116764220))) (bm 14601915))) (br 1 3 (br 1 5 (br 1 4 (br 0 3 (br 3 4 (br 0 4 (el 18343234829446875392) (br 0 5 (el 18345627366748915840) (br 4 5 (el 18345553924213250081) (bm 934092348)))) (br 4 5 (br 0 4 (el 18347420541503211776) (br 0 5 (el 18347561348281469056) (bm 933820664))) (bm 115931963))) (br 0 5 (br 0 4 (br 3 4 (el 18343234898468341824) (br 4 5 (el 18347561347711043648) (bm 927445484))) (br 3 4 (br 4 5 (el 18347561348264648737) (bm 932519483)) (bm 934092348))) (bm 116727355))) (br 3 4 (br 4 5 (br 0 3 (br 0 4 (el 18347420111805159680) (br 0 5 (el 18347560918583416960) (bm 934115448))) (br 0 4 (br 0 5 (el 18347560849293662272) (bm 934354491)) (bm 934115448))) (bm 116226873)) (bm 116750585))) (bm 14528125)) (bm 14593659))) (br 0 3 (br 0 5 (br 1 2 (br 0 4 (br 1 3 (br 3 4 (br 1 4 (el 18343234760727857184) (br 1 5 (el 18345768035517990944) (br 4 5 (el 18345712322573572128) (bm 934088316)))) (br 4 5 (br 1 4 (el 18347279804015314976) (br 1 5 (el 18347561417034696736) (bm 927192035))) (bm 115899195))) (br 1 5 (br 1 4 (br 3 4 (el 18343234898501961760) (br 4 5 (el 18347561416430585888) (bm 927183852))) (br 3 4 (br 4 5 (el 18347561417021890592) (bm 934343739)) (bm 934088316))) (bm 115899003))) (br 3 4 (br 4 5 (br 1 3 (br 1 4 (el 18347279296973838593) (br 1 5 (el 18347560909993482369) (bm 934115448))) (br 1 4 (br 1 5 (el 18347560771950712897) (bm 931691131)) (bm 934115448))) (bm 116226872)) (bm 116750584))) (br 1 3 (br 1 5 (br 0 4 (br 1 4 (br 3 4 (el 18343234898166351904) (br 4 5 (el 18347561278991566880) (bm 925399867))) (br 3 4 (br 4 5 (el 18347560849293514784) (bm 929594169)) (bm 933787897))) (br 1 4 (br 3 4 (br 4 5 (el 18347560771950549025) (bm 929626936)) (bm 933820664)) (bm 934115448))) (bm 116199037)) (bm 116723323))) (bm 14528061)) (bm 14593595))) (bm 1814269))) (br 3 4 (br 2 5 (br 0 2 (br 1 2 (br 3 5 (br 0 3 (br 1 3 (br 4 5 (br 0 4 (el 18347403096008759552) (br 1 4 (el 18347244697614883073) (br 0 5 (el 18347543902216591488) (br 1 5 (el 18347526310030547073) (bm 932018808))))) (br 0 4 (br 1 4 (el 18347174242170702080) (br 1 5 (el 18347455717147150592) (bm 116502141))) (br 0 5 (br 1 4 (el 18347314979659057280) (br 1 5 (el 18347596454635505792) (bm 929697405))) (bm 116502077)))) (br 1 4 (br 1 5 (br 0 4 (el 18347455854921517312) (br 0 5 (el 18347596592409872512) (br 4 5 (el 18347526310097819713) (bm 931765821)))) (br 4 5 (br 0 4 (el 18347403087418827008) (br 0 5 (el 18347543893660491904) (bm 932018808))) (bm 116797051))) (bm 14560891))) (br 0 4 (br 1 3 (br 0 5 (br 1 4 (el 18347315048680523840) (br 1 5 (el 18347596523656972352) (br 4 5 (el 18347543902250293312) (bm 931761789)))) (br 4 5 (br 1 4 (el 18347244689024950529) (br 1 5 (el 18347526301508018305) (bm 932018808))) (bm 116796987))) (br 1 4 (br 0 5 (br 1 5 (el 18347596661162903616) (br 4 5 (el 18347543893626658880) (bm 934377017))) (br 1 5 (br 4 5 (el 18347526301440614465) (bm 934377080)) (bm 932018808))) (bm 116487737))) (bm 14560827))) (br 4 5 (br 0 3 (br 1 3 (br 0 4 (br 1 4 (el 18347156649988851968) (br 1 5 (el 18347438263008233728) (bm 116488953))) (br 0 5 (br 1 4 (el 18347297456767109248) (br 1 5 (el 18347579069249620096) (bm 934115385))) (bm 116488952))) (br 1 4 (br 1 5 (br 0 4 (el 18347438124965169408) (br 0 5 (el 18347578931743426688) (bm 934082744))) (bm 116502141)) (bm 116488953))) (br 0 4 (br 0 5 (br 1 3 (br 1 4 (el 18347297387477207104) (br 1 5 (el 18347579000496588864) (bm 933736930))) (br 1 4 (br 1 5 (el 18347578862453524544) (bm 931761789)) (bm 934049977))) (bm 116502077)) (bm 116488952))) (bm 14601915))) (br 1 3 (br 1 4 (br 1 5 (br 0 3 (br 3 5 (br 0 4 (el 18347455854585907456) (br 0 5 (el 18347596592074262656) (br 4 5 (el 18347526310097655841) (bm 931995197)))) (br 4 5 (br 0 4 (el 18347438262404057344) (br 0 5 (el 18347579069182314624) (bm 931724024))) (bm 115931963))) (br 0 4 (br 0 5 (br 3 5 (el 18347596661095729216) (br 4 5 (el 18347578999892412480) (bm 927445484))) (br 3 5 (br 4 5 (el 18347526301507723297) (bm 934354491)) (bm 931995197))) (bm 116465211))) (br 3 5 (br 4 5 (br 0 3 (br 0 4 (el 18347403078031972608) (br 0 5 (el 18347543884810229888) (bm 932018808))) (br 0 4 (br 0 5 (el 18347543884239951936) (bm 932018808)) (bm 934354491))) (bm 116226873)) (bm 116488953))) (bm 14528124)) (bm 14560891))) (br 0 3 (br 0 4 (br 1 2 (br 0 5 (br 1 3 (br 3 5 (br 1 4 (el 18347315048378533920) (br 1 5 (el 18347596523354982432) (br 4 5 (el 18347543902250145824) (bm 931991165)))) (br 4 5 (br 1 4 (el 18347297456196683808) (br 1 5 (el 18347579069216065568) (bm 927187947))) (bm 115899195))) (br 1 4 (br 1 5 (br 3 5 (el 18347596661129349152) (br 4 5 (el 18347578931173001248) (bm 927183852))) (br 3 5 (br 4 5 (el 18347543893660213280) (bm 932508731)) (bm 931991165))) (bm 115898491))) (br 3 5 (br 4 5 (br 1 3 (br 1 4 (el 18347244679638096129) (br 1 5 (el 18347526292657739905) (bm 932018808))) (br 1 4 (br 1 5 (el 18347526292053923905) (bm 932018808)) (bm 933787771))) (bm 116226872)) (bm 116488952))) (br 1 3 (br 1 4 (br 0 5 (br 1 5 (br 3 5 (el 18347596660793739296) (br 4 5 (el 18347579068611889184) (bm 925399867))) (br 3 5 (br 4 5 (el 18347543884239804448) (bm 929594169)) (bm 931691257))) (br 1 5 (br 3 5 (br 4 5 (el 18347526292053760033) (bm 929626936)) (bm 931724024)) (bm 932018808))) (bm 116199036)) (bm 116461179))) (bm 14528060)) (bm 14560827))) (br 3 5 (br 4 5 (br 0 2 (br 1 2 (br 0 3 (br 1 3 (br 0 4 (br 1 4 (el 18347137425711040768) (br 1 5 (el 18347420137638070528) (bm 116764284))) (br 0 5 (br 1 4 (el 18347279331430500480) (br 1 5 (el 18347560943845902464) (bm 934115385))) (bm 116764220))) (br 1 4 (br 1 5 (br 0 4 (el 18347418901022902528) (br 0 5 (el 18347560806742362240) (bm 933862972))) (bm 116797051)) (bm 116797051))) (br 0 4 (br 0 5 (br 1 3 (br 1 4 (el 18347278163501385792) (br 1 5 (el 18347560875428415552) (bm 927758972))) (br 1 4 (br 1 5 (el 18347559638544812096) (bm 934377017)) (bm 934377017))) (bm 116796987)) (bm 116796987))) (br 1 3 (br 1 4 (br 1 5 (br 0 3 (br 0 4 (el 18347418900687292672) (br 0 5 (el 18347560806406752384) (bm 934092348))) (br 0 4 (br 0 5 (el 18347559638477637696) (bm 934354491)) (bm 934354491))) (bm 116502141)) (bm 116764284)) (bm 116797051))) (br 0 3 (br 0 4 (br 0 5 (br 1 2 (br 1 3 (br 1 4 (el 18347278163199395872) (br 1 5 (el 18347560875126425632) (bm 929593980))) (br 1 4 (br 1 5 (el 18347559638511257632) (bm 931691131)) (bm 933787771))) (br 1 3 (br 1 4 (br 1 5 (el 18347559638175647776) (bm 931991165)) (bm 934088316)) (bm 934350459))) (bm 116502077)) (bm 116764220)) (bm 116796987))) (bm 14528317)) (bm 14561021))) (bm 1814268)))
noncomputable def t61_6 : Tr := (br 1 2 (br 3 4 (br 1 5 (br 2 5 (br 1 3 (br 2 3 (el 18346470838595012624) (br 2 4 (el 18345908713006876688) (br 3 5 (el 18347596454635554832) (br 4 5 (el 18347579069249669136) (bm 14601915))))) (br 1 4 (br 2 3 (el 18346049382044059664) (br 2 4 (el 18343234906886424592) (br 3 5 (el 18347596661162952720) (br 4 5 (el 18347578862453573648) (bm 929332026))))) (br 2 3 (br 3 5 (el 18347596377258987536) (br 4 5 (el 18347579060626133008) (bm 115637051))) (br 2 4 (br 3 5 (el 18347596652539416592) (br 4 5 (el 18347578785077006352) (bm 925087212))) (bm 115636411))))) (br 2 3 (br 2 4 (br 1 3 (el 18345907889178462224) (br 1 4 (el 18343234632813824016) (br 3 5 (el 18347033427305828368) (br 4 5 (el 18347015835123978256) (bm 932540987))))) (br 4 5 (br 1 3 (el 18346435044878632976) (br 1 4 (el 18346011527112476688) (br 3 5 (el 18347561494364854288) (bm 925091307)))) (bm 1814333))) (br 3 5 (br 2 4 (br 1 3 (el 18345908704286918672) (br 1 4 (el 18343234898535565328) (br 4 5 (el 18347561485774921744) (bm 932540987)))) (br 4 5 (br 1 3 (el 18347560943845951504) (br 1 4 (el 18347559638544861200) (bm 934375995))) (bm 14528317))) (bm 1814269)))) (br 1 3 (br 1 4 (br 2 5 (br 2 3 (el 18346048626130208784) (br 2 4 (el 18343234700728387600) (br 3 5 (el 18347174242170750992) (br 4 5 (el 18347156649988900880) (bm 933525691))))) (br 2 3 (br 2 4 (el 18343233876899973136) (br 4 5 (el 18346011526743771152) (bm 116690620))) (br 3 5 (br 2 4 (el 18343234692008429584) (br 4 5 (el 18347137425711089680) (bm 933525180))) (bm 116690619)))) (br 4 5 (br 2 4 (br 2 3 (el 18345853059630370832) (br 2 5 (el 18345853060032630800) (br 3 5 (el 18345853060028373008) (bm 934317755)))) (br 2 5 (br 2 3 (el 18346417383973064720) (br 3 5 (el 18347543833497114640) (bm 925091307))) (bm 115636924))) (bm 14454589))) (br 3 5 (br 2 3 (br 1 4 (br 2 4 (el 18343234614631862288) (br 2 5 (el 18346049364398706704) (br 4 5 (el 18346011527103944720) (bm 934055612)))) (br 4 5 (br 2 4 (el 18346978958530580496) (br 2 5 (el 18347543282873274384) (bm 929331900))) (bm 116166461))) (br 2 5 (br 1 4 (br 2 4 (el 18343234889912029200) (br 4 5 (el 18347543824907182096) (bm 934375995))) (br 2 4 (br 4 5 (el 18347541908886261776) (bm 927764285)) (bm 933525691))) (bm 115636923))) (bm 14454525)))) (br 3 5 (br 1 3 (br 2 3 (br 4 5 (br 1 4 (el 18347139075381184528) (br 2 4 (el 18346980608267784208) (br 1 5 (el 18347561494004418576) (br 2 5 (el 18347543833098850320) (bm 925095395))))) (br 1 4 (br 2 4 (el 18346610477108873232) (br 2 5 (el 18347173426525423632) (bm 14565053))) (br 1 5 (br 2 4 (el 18347032689573677072) (br 2 5 (el 18347595638990227472) (bm 930123453))) (bm 115636477)))) (br 2 4 (br 2 5 (br 1 4 (el 18347174250890709008) (br 1 5 (el 18347596463355512848) (br 4 5 (el 18347543833501372432) (bm 932016701)))) (br 4 5 (br 1 4 (el 18347139066527008784) (br 1 5 (el 18347561485787777040) (bm 925095395))) (bm 14601915))) (bm 1814268))) (br 1 4 (br 2 3 (br 1 5 (br 2 4 (el 18347033445487790096) (br 2 5 (el 18347596394904340496) (br 4 5 (el 18347561494373386256) (bm 931958461)))) (br 4 5 (br 2 4 (el 18346980599413608464) (br 2 5 (el 18347543824915763216) (bm 925095395))) (bm 115637051))) (br 2 4 (br 1 5 (br 2 5 (el 18347596669513811984) (br 4 5 (el 18347561485150111760) (bm 929332026))) (br 2 5 (br 4 5 (el 18347543824244543504) (bm 925087212)) (bm 925095395))) (bm 116166332))) (bm 14454524))) (br 4 5 (br 1 3 (br 2 3 (br 1 4 (br 2 4 (el 18346592343756949520) (br 2 5 (el 18347156667563034640) (bm 14597820))) (br 1 5 (br 2 4 (el 18347015861891811344) (br 2 5 (el 18347579086186268688) (bm 931429114))) (bm 115636988))) (br 2 4 (br 2 5 (br 1 4 (el 18347155292905064464) (br 1 5 (el 18347578811039926288) (bm 934113852))) (bm 14565053)) (bm 14597820))) (br 1 4 (br 1 5 (br 2 3 (br 2 4 (el 18347014556221622288) (br 2 5 (el 18347578880027707408) (bm 929331900))) (br 2 4 (br 2 5 (el 18347577505369737232) (bm 931958461)) (bm 934055612))) (bm 115636477)) (bm 115636988))) (bm 1818429)))) (br 1 3 (br 1 4 (br 1 5 (br 2 3 (br 4 5 (br 2 4 (el 18346592343991371792) (br 3 4 (el 18346433739208378384) (br 2 5 (el 18347579086420953104) (br 3 5 (el 18347561287845791760) (bm 927234812))))) (br 2 4 (br 3 4 (el 18343233877134395408) (br 3 5 (el 18346610477343295504) (bm 1818429))) (br 2 5 (br 3 4 (el 18346470838829697040) (br 3 5 (el 18347595639224911888) (bm 931696381))) (bm 115904317)))) (br 2 4 (br 2 5 (br 3 4 (el 18343234907121240080) (br 3 5 (el 18347596669748627472) (br 4 5 (el 18347577505604552720) (bm 929599293)))) (br 3 5 (br 3 4 (el 18343234898166401040) (br 4 5 (el 18347561278991616016) (bm 927234875))) (bm 115904253))) (br 3 4 (br 2 5 (br 3 5 (el 18347596660793788432) (br 4 5 (el 18347579068611938320) (bm 927234875))) (br 3 5 (br 4 5 (el 18347559638175696912) (bm 929599293)) (bm 931696381))) (bm 115904252)))) (br 2 5 (br 2 3 (br 2 4 (br 3 4 (el 18343233877130121232) (br 3 5 (el 18346610477339021328) (br 4 5 (el 18346592343987097616) (bm 933793532)))) (br 4 5 (br 3 4 (el 18346417365858129936) (br 3 5 (el 18347543816325830672) (bm 934408762))) (bm 115637050))) (br 3 5 (br 2 4 (br 3 4 (el 18343234889907771408) (br 4 5 (el 18347543816321507344) (bm 934408762))) (br 3 4 (br 4 5 (el 18347543815520327696) (bm 925087212)) (bm 933793532))) (bm 115636986))) (bm 14454461))) (br 2 4 (br 1 5 (br 2 3 (br 2 5 (br 3 4 (el 18346470838825422864) (br 3 5 (el 18347595639220637712) (br 4 5 (el 18347579086416678928) (bm 931696381)))) (br 4 5 (br 3 4 (el 18346435018106607632) (br 3 5 (el 18347561468574308368) (bm 934408762))) (bm 115637050))) (br 3 4 (br 2 5 (br 3 5 (el 18347596652535158800) (br 4 5 (el 18347579069236813840) (bm 932573754))) (br 3 5 (br 4 5 (el 18347560918012991504) (bm 925087212)) (bm 931696381))) (bm 115636474))) (br 2 5 (br 4 5 (br 2 3 (br 3 4 (el 18346416009583300624) (br 3 5 (el 18347543558220714000) (bm 927234812))) (br 3 4 (br 3 5 (el 18347541908882003984) (bm 931429114)) (bm 933525754))) (bm 115904317)) (bm 116428477))) (bm 14454460))) (br 2 3 (br 1 4 (br 1 5 (br 2 4 (br 2 5 (br 3 4 (el 18343234907116965904) (br 3 5 (el 18347596669744353296) (br 4 5 (el 18347577505600278544) (bm 929599293)))) (br 3 5 (br 3 4 (el 18343234898527033360) (br 4 5 (el 18347561468569985040) (bm 934408762))) (bm 115636986))) (br 3 4 (br 2 5 (br 3 5 (el 18347596661154420752) (br 4 5 (el 18347579060617551888) (bm 932573754))) (br 3 5 (br 4 5 (el 18347559638536329232) (bm 929599293)) (bm 925091307))) (bm 115636474))) (br 2 5 (br 3 5 (br 2 4 (br 3 4 (el 18343234889509277712) (br 4 5 (el 18347543549366538256) (bm 927234875))) (br 3 4 (br 4 5 (el 18347543265764481040) (bm 929332026)) (bm 933525754))) (bm 115904253)) (bm 116166333))) (br 2 4 (br 3 4 (br 1 5 (br 2 5 (br 3 5 (el 18347596652136665104) (br 4 5 (el 18347579059954814992) (bm 927234875))) (br 3 5 (br 4 5 (el 18347561467768772624) (bm 929332026)) (bm 931429114))) (br 2 5 (br 3 5 (br 4 5 (el 18347541908483510288) (bm 929599293)) (bm 931696381)) (bm 931958461))) (bm 115904252)) (bm 116166332))) (bm 14454459))))
noncomputable def t61_7 : Tr := (br 0 4 (br 0 5 t61_6 (br 1 5 (br 1 2 (br 1 3 (br 1 4 (br 2 3 (br 4 5 (br 2 4 (el 18346592343756947465) (br 3 4 (el 18346011526743769097) (br 2 5 (el 18347156667563032585) (br 3 5 (el 18347139075381182473) (bm 933525754))))) (br 2 4 (br 3 4 (el 18343233876899971081) (br 3 5 (el 18346610477108871177) (bm 116690684))) (br 2 5 (br 3 4 (el 18346048626130206729) (br 3 5 (el 18347173426525421577) (bm 933525691))) (bm 116690620)))) (br 2 4 (br 2 5 (br 3 4 (el 18343234700728385545) (br 3 5 (el 18347174250890706953) (br 4 5 (el 18347155292905062409) (bm 933525180)))) (br 3 5 (br 3 4 (el 18343234692008427529) (br 4 5 (el 18347139066527006729) (bm 933525754))) (bm 116690619))) (br 3 4 (br 2 5 (br 3 5 (el 18347174242170748937) (br 4 5 (el 18347156649988898825) (bm 933525691))) (br 3 5 (br 4 5 (el 18347137425711087625) (bm 933525180)) (bm 933525691))) (bm 1814268)))) (br 4 5 (br 2 4 (br 3 4 (br 2 3 (el 18345836608903190786) (br 2 5 (el 18345836608903387202) (br 3 5 (el 18345836608903385123) (bm 934317755)))) (br 3 5 (br 2 3 (el 18346963059370891522) (br 2 5 (el 18347526284336633922) (bm 934391353))) (bm 116801081))) (br 2 5 (br 2 3 (br 3 4 (el 18346399834405607554) (br 3 5 (el 18347526284336437378) (bm 934161977))) (br 3 4 (br 3 5 (el 18347526284336631843) (bm 934391353)) (bm 934317755))) (bm 116796985))) (bm 14601785))) (br 3 5 (br 1 4 (br 2 3 (br 3 4 (br 2 4 (el 18343234606335039746) (br 2 5 (el 18346049356102146178) (br 4 5 (el 18346011527099893779) (bm 934055612)))) (br 4 5 (br 2 4 (el 18346963059366568194) (br 2 5 (el 18347526284332441730) (bm 934161977))) (bm 116801081))) (br 2 5 (br 2 4 (br 3 4 (el 18343234881347360834) (br 4 5 (el 18347526284332113986) (bm 934391353))) (br 3 4 (br 4 5 (el 18347526284332437540) (bm 934391353)) (bm 934055612))) (bm 116764217))) (br 3 4 (br 4 5 (br 2 3 (br 2 4 (el 18346963058565355778) (br 2 5 (el 18347526284067772546) (bm 934377080))) (br 2 4 (br 2 5 (el 18347526283396880450) (bm 934115448)) (bm 933525691))) (bm 116194104)) (bm 116690684))) (bm 14597689))) (br 2 5 (br 1 3 (br 1 4 (br 2 3 (br 2 4 (br 3 4 (el 18343233877126006802) (br 3 5 (el 18346610477334906898) (br 4 5 (el 18346592343982983186) (bm 933793532)))) (br 4 5 (br 3 4 (el 18346399834396762371) (br 3 5 (el 18347526284328247427) (bm 934161977))) (bm 116796985))) (br 3 5 (br 2 4 (br 3 4 (el 18343234881347358755) (br 4 5 (el 18347526284328245316) (bm 934391353))) (br 3 4 (br 4 5 (el 18347526284327854115) (bm 934391353)) (bm 933793532))) (bm 116764217))) (br 2 4 (br 4 5 (br 2 3 (br 3 4 (el 18346399833734518802) (br 3 5 (el 18347526284202219538) (bm 934409336))) (br 3 4 (br 3 5 (el 18347526283396878371) (bm 934115448)) (bm 933525754))) (bm 115931960)) (bm 116690620))) (br 2 3 (br 3 5 (br 1 4 (br 2 4 (br 3 4 (el 18343234881347164178) (br 4 5 (el 18347526284197896210) (bm 934409336))) (br 3 4 (br 4 5 (el 18347526284059418643) (bm 934377080)) (bm 933525754))) (br 2 4 (br 3 4 (br 4 5 (el 18347526283396683794) (bm 929626936)) (bm 933793532)) (bm 934055612))) (bm 115931896)) (bm 116690619))) (bm 14593593))) (bm 1805949))) (br 1 4 (br 0 5 (br 1 2 (br 1 3 (br 1 5 (br 2 3 (br 4 5 (br 2 4 (el 18347015861891809289) (br 3 4 (el 18346435044878630921) (br 2 5 (el 18347579086186266633) (br 3 5 (el 18347561494004416521) (bm 931429114))))) (br 2 4 (br 3 4 (el 18345907889178460169) (br 3 5 (el 18347032689573675017) (bm 116428541))) (br 2 5 (br 3 4 (el 18346470838595010569) (br 3 5 (el 18347595638990225417) (bm 928026365))) (bm 116428477)))) (br 2 4 (br 2 5 (br 3 4 (el 18345908713006874633) (br 3 5 (el 18347596463355510793) (br 4 5 (el 18347578811039924233) (bm 931428029)))) (br 3 5 (br 3 4 (el 18345908704286916617) (br 4 5 (el 18347561485787774985) (bm 931429051))) (bm 1814269))) (br 3 4 (br 2 5 (br 3 5 (el 18347596454635552777) (br 4 5 (el 18347579069249667081) (bm 931429114))) (br 3 5 (br 4 5 (el 18347560943845949449) (bm 931428029)) (bm 928026365))) (bm 116428475)))) (br 4 5 (br 2 4 (br 3 4 (br 2 3 (el 18345854192465746178) (br 2 5 (el 18345854192465942594) (br 3 5 (el 18345854192465940515) (bm 934317755)))) (br 3 5 (br 2 3 (el 18346980642933446914) (br 2 5 (el 18347543867899189314) (bm 934391353))) (bm 116801081))) (br 2 5 (br 2 3 (br 3 4 (el 18346417417968162946) (br 3 5 (el 18347543867898992770) (bm 934161977))) (br 3 4 (br 3 5 (el 18347543867899187235) (bm 934391353)) (bm 934317755))) (bm 116796985))) (bm 14601785))) (br 3 4 (br 1 5 (br 2 3 (br 3 5 (br 2 4 (el 18347033419009005826) (br 2 5 (el 18347596368962427010) (br 4 5 (el 18347561494360803347) (bm 931958461)))) (br 4 5 (br 2 4 (el 18347015835677122818) (br 2 5 (el 18347579060642996354) (bm 930491961))) (bm 116571705))) (br 2 4 (br 2 5 (br 3 5 (el 18347596643974748226) (br 4 5 (el 18347578785630543938) (bm 932556345))) (br 3 5 (br 4 5 (el 18347561485775192076) (bm 932556345)) (bm 931958461))) (bm 116502073))) (br 3 5 (br 4 5 (br 2 3 (br 2 4 (el 18346980092372097282) (br 2 5 (el 18347543317874514050) (bm 934377080))) (br 2 4 (br 2 5 (el 18347543042325715010) (bm 931429051)) (bm 932018808))) (bm 116194104)) (bm 116428541))) (bm 14564921))) (br 2 4 (br 1 3 (br 1 5 (br 2 3 (br 2 5 (br 3 4 (el 18346470838821308434) (br 3 5 (el 18347595639216523282) (br 4 5 (el 18347579086412564498) (bm 931696381)))) (br 4 5 (br 3 4 (el 18346435018659750147) (br 3 5 (el 18347561468591235203) (bm 932097593))) (bm 116567609))) (br 3 4 (br 2 5 (br 3 5 (el 18347596643974746147) (br 4 5 (el 18347579069237084172) (bm 932556345))) (br 3 5 (br 4 5 (el 18347560918566592547) (bm 932556345)) (bm 931696381))) (bm 116502073))) (br 2 5 (br 4 5 (br 2 3 (br 3 4 (el 18346417142419167250) (br 3 5 (el 18347543592886867986) (bm 934409336))) (br 3 4 (br 3 5 (el 18347543042325712931) (bm 931429114)) (bm 932018808))) (bm 115931960)) (bm 116428477))) (br 2 3 (br 3 4 (br 1 5 (br 2 5 (br 3 5 (el 18347596643974551570) (br 4 5 (el 18347579060508450834) (bm 932574328))) (br 3 5 (br 4 5 (el 18347561468322406419) (bm 932542072)) (bm 931429114))) (br 2 5 (br 3 5 (br 4 5 (el 18347543042325518354) (bm 929626936)) (bm 931696381)) (bm 931958461))) (bm 115931384)) (bm 116428475))) (bm 14560825))) (br 1 5 (br 4 5 (br 1 2 (br 1 3 (br 2 4 (br 3 4 (br 2 3 (el 18345835398724849673) (br 2 5 (el 18345835399127109641) (br 3 5 (el 18345835399122851849) (bm 934317755)))) (br 3 5 (br 2 3 (el 18346962947362263049) (br 2 5 (el 18347526172595851273) (bm 925095395))) (bm 115636988))) (br 2 5 (br 2 3 (br 3 4 (el 18346399723067543561) (br 3 5 (el 18347526172193329161) (bm 925095906))) (br 3 4 (br 3 5 (el 18347526172591593481) (bm 925091307)) (bm 934317755))) (bm 115636924))) (br 3 4 (br 3 5 (br 2 3 (br 2 4 (el 18346961297918171394) (br 2 5 (el 18347525622261127298) (bm 929331900))) (br 2 4 (br 2 5 (el 18347524248006006850) (bm 934115385)) (bm 932018745))) (bm 116423417)) (bm 116685049))) (br 2 4 (br 2 5 (br 1 3 (br 2 3 (br 3 4 (el 18346398348677859346) (br 3 5 (el 18347525897315272722) (bm 927234812))) (br 3 4 (br 3 5 (el 18347524248006004771) (bm 934115385)) (bm 932018745))) (br 2 3 (br 3 4 (br 3 5 (el 18347524248005810194) (bm 931374059)) (bm 933471203)) (bm 934317755))) (bm 116423353)) (bm 116684985))) (bm 14454589)) (bm 14552701))) (bm 1805948)))
noncomputable def t61_8 : Tr := (br 0 3 (br 0 4 (br 0 5 (br 1 3 (br 1 4 (br 1 5 (br 2 3 (br 4 5 (br 2 4 (el 18346592343991369737) (br 3 4 (el 18346433739208376329) (br 2 5 (el 18347579086420951049) (br 3 5 (el 18347561287845789705) (bm 927234812))))) (br 2 4 (br 3 4 (el 18343233877134393353) (br 3 5 (el 18346610477343293449) (bm 1818429))) (br 2 5 (br 3 4 (el 18346470838829694985) (br 3 5 (el 18347595639224909833) (bm 931696381))) (bm 115904317)))) (br 2 4 (br 2 5 (br 3 4 (el 18343234907121238025) (br 3 5 (el 18347596669748625417) (br 4 5 (el 18347577505604550665) (bm 929599293)))) (br 3 5 (br 3 4 (el 18343234898166398985) (br 4 5 (el 18347561278991613961) (bm 927234875))) (bm 115904253))) (br 3 4 (br 2 5 (br 3 5 (el 18347596660793786377) (br 4 5 (el 18347579068611936265) (bm 927234875))) (br 3 5 (br 4 5 (el 18347559638175694857) (bm 929599293)) (bm 931696381))) (bm 115904252)))) (br 2 5 (br 2 3 (br 2 4 (br 3 4 (el 18343233877130199050) (br 3 5 (el 18346610477339099146) (br 4 5 (el 18346592343987175434) (bm 933793532)))) (br 4 5 (br 3 4 (el 18346417417959317763) (br 3 5 (el 18347543867890802819) (bm 934161977))) (bm 116796985))) (br 3 5 (br 2 4 (br 3 4 (el 18343234889933082659) (br 4 5 (el 18347543867890800708) (bm 934391353))) (br 3 4 (br 4 5 (el 18347543867890409507) (bm 934391353)) (bm 933793532))) (bm 116764217))) (bm 14593593))) (br 2 4 (br 1 5 (br 2 3 (br 2 5 (br 3 4 (el 18346470838825500682) (br 3 5 (el 18347595639220715530) (br 4 5 (el 18347579086416756746) (bm 931696381)))) (br 4 5 (br 3 4 (el 18346435010074026243) (br 3 5 (el 18347561460005511299) (bm 932097593))) (bm 116567609))) (br 3 4 (br 2 5 (br 3 5 (el 18347596652560470051) (br 4 5 (el 18347579069232891924) (bm 932556345))) (br 3 5 (br 4 5 (el 18347560909980868643) (bm 932556345)) (bm 931696381))) (bm 116502073))) (br 2 5 (br 4 5 (br 2 3 (br 3 4 (el 18346416009583378442) (br 3 5 (el 18347543558220791818) (bm 927234812))) (br 3 4 (br 3 5 (el 18347541908907315235) (bm 934115448)) (bm 932018808))) (bm 115904317)) (bm 116456120))) (bm 14560825))) (br 2 3 (br 1 4 (br 1 5 (br 2 4 (br 2 5 (br 3 4 (el 18343234907117043722) (br 3 5 (el 18347596669744431114) (br 4 5 (el 18347577505600356362) (bm 929599293)))) (br 3 5 (br 3 4 (el 18343234898522982419) (br 4 5 (el 18347561460005509188) (bm 930262585))) (bm 116305465))) (br 3 4 (br 2 5 (br 3 5 (el 18347596661150369811) (br 4 5 (el 18347579060642992164) (bm 930491961))) (br 3 5 (br 4 5 (el 18347559638532278291) (bm 929599293)) (bm 930491961))) (bm 116272697))) (br 2 5 (br 3 5 (br 2 4 (br 3 4 (el 18343234889509355530) (br 4 5 (el 18347543549366616074) (bm 927234875))) (br 3 4 (br 4 5 (el 18347543317866160147) (bm 934377080)) (bm 930183800))) (bm 115904253)) (bm 116193976))) (br 2 4 (br 3 4 (br 1 5 (br 2 5 (br 3 5 (el 18347596652136742922) (br 4 5 (el 18347579059954892810) (bm 927234875))) (br 3 5 (br 4 5 (el 18347561460005117971) (bm 932542072)) (bm 930445432))) (br 2 5 (br 3 5 (br 4 5 (el 18347541908483588106) (bm 929599293)) (bm 931696381)) (bm 931986104))) (bm 115904252)) (bm 116193464))) (bm 14528057))) (br 1 5 (br 2 5 (br 1 3 (br 1 4 (br 2 3 (br 2 4 (br 3 4 (el 18343233877125910537) (br 3 5 (el 18346610477334810633) (br 4 5 (el 18346592343982886921) (bm 933793532)))) (br 4 5 (br 3 4 (el 18346399704952608777) (br 3 5 (el 18347526155420309513) (bm 934408762))) (bm 115637050))) (br 3 5 (br 2 4 (br 3 4 (el 18343234881284282377) (br 4 5 (el 18347526155415986185) (bm 934408762))) (br 3 4 (br 4 5 (el 18347526154614806537) (bm 925087212)) (bm 933793532))) (bm 115636986))) (br 2 4 (br 4 5 (br 2 3 (br 3 4 (el 18346399558856611850) (br 3 5 (el 18347526009324312586) (bm 934409273))) (br 3 4 (br 3 5 (el 18347525458763141155) (bm 931429114)) (bm 932018745))) (bm 115899193)) (bm 116684985))) (br 2 3 (br 3 5 (br 1 4 (br 2 4 (br 3 4 (el 18343234881212946442) (br 4 5 (el 18347526009319989258) (bm 934409273))) (br 3 4 (br 4 5 (el 18347525604859103251) (bm 929332026)) (bm 930183737))) (br 2 4 (br 3 4 (br 4 5 (el 18347526008518776842) (bm 927183852)) (bm 933793532)) (bm 933475298))) (bm 115899129)) (bm 116684473))) (bm 14454461)) (bm 14487165))) (br 1 4 (br 2 4 (br 0 5 (br 1 3 (br 1 5 (br 2 3 (br 2 5 (br 3 4 (el 18346470838821212169) (br 3 5 (el 18347595639216427017) (br 4 5 (el 18347579086412468233) (bm 931696381)))) (br 4 5 (br 3 4 (el 18346435009483118601) (br 3 5 (el 18347561459950819337) (bm 934408762))) (bm 115637050))) (br 3 4 (br 2 5 (br 3 5 (el 18347596643911669769) (br 4 5 (el 18347579069232603145) (bm 932573754))) (br 3 5 (br 4 5 (el 18347560909389502473) (bm 925087212)) (bm 931696381))) (bm 115636474))) (br 2 5 (br 4 5 (br 2 3 (br 3 4 (el 18346417417297074186) (br 3 5 (el 18347543867764774922) (bm 934409273))) (br 3 4 (br 3 5 (el 18347543866959417379) (bm 934115385)) (bm 933525754))) (bm 115899193)) (bm 116423353))) (br 2 3 (br 3 4 (br 1 5 (br 2 5 (br 3 5 (el 18347596643840333834) (br 4 5 (el 18347579060642668554) (bm 932574265))) (br 3 5 (br 4 5 (el 18347561459145426963) (bm 929332026)) (bm 930445369))) (br 2 5 (br 3 5 (br 4 5 (el 18347543317203425290) (bm 927183852)) (bm 931696381)) (bm 931378154))) (bm 115898617)) (bm 116422329))) (br 1 5 (br 2 5 (br 4 5 (br 1 3 (br 2 3 (br 3 4 (el 18346398348677763081) (br 3 5 (el 18347525897315176457) (bm 927234812))) (br 3 4 (br 3 5 (el 18347524247942928393) (bm 931429114)) (bm 933525754))) (br 2 3 (br 3 4 (br 3 5 (el 18347524247871592458) (bm 931691257)) (bm 933787897)) (bm 934311609))) (bm 115904317)) (bm 116428477)) (bm 116461181))) (bm 14454460)) (bm 14487164))) (br 1 3 (br 2 3 (br 0 4 (br 0 5 (br 1 4 (br 1 5 (br 2 4 (br 2 5 (br 3 4 (el 18343234907112755209) (br 3 5 (el 18347596669740142601) (br 4 5 (el 18347577505596067849) (bm 929599293)))) (br 3 5 (br 3 4 (el 18343234898522822665) (br 4 5 (el 18347561459946496009) (bm 934408762))) (bm 115636986))) (br 3 4 (br 2 5 (br 3 5 (el 18347596661150210057) (br 4 5 (el 18347579051994062857) (bm 932573754))) (br 3 5 (br 4 5 (el 18347559638532118537) (bm 929599293)) (bm 925091307))) (bm 115636474))) (br 2 5 (br 3 5 (br 2 4 (br 3 4 (el 18343234889932888074) (br 4 5 (el 18347543867760451594) (bm 934409273))) (br 3 4 (br 4 5 (el 18347543867621974027) (bm 934377017)) (bm 933525754))) (bm 115899129)) (bm 116161209))) (br 2 4 (br 3 4 (br 1 5 (br 2 5 (br 3 5 (el 18347596652560275466) (br 4 5 (el 18347579051922726922) (bm 932574265))) (br 3 5 (br 4 5 (el 18347561459736682507) (bm 932542009)) (bm 931429114))) (br 2 5 (br 3 5 (br 4 5 (el 18347541908907120650) (bm 929599293)) (bm 927187947)) (bm 929285098))) (bm 115898617)) (bm 116160697))) (br 1 5 (br 2 5 (br 3 5 (br 1 4 (br 2 4 (br 3 4 (el 18343234880885772297) (br 4 5 (el 18347525888461000713) (bm 927234875))) (br 3 4 (br 4 5 (el 18347525604858943497) (bm 929332026)) (bm 933525754))) (br 2 4 (br 3 4 (br 4 5 (el 18347525458762946570) (bm 929594169)) (bm 933787897)) (bm 934049977))) (bm 115904253)) (bm 116166333)) (bm 116199037))) (br 1 4 (br 2 4 (br 3 4 (br 0 5 (br 1 5 (br 2 5 (br 3 5 (el 18347596643513159689) (br 4 5 (el 18347579051331309577) (bm 927234875))) (br 3 5 (br 4 5 (el 18347561459145267209) (bm 929332026)) (bm 931429114))) (br 2 5 (br 3 5 (br 4 5 (el 18347543866959222794) (bm 929594169)) (bm 931691257)) (bm 931953337))) (br 1 5 (br 2 5 (br 3 5 (br 4 5 (el 18347524247544418313) (bm 929599293)) (bm 931696381)) (bm 931958461)) (bm 931991165))) (bm 115904252)) (bm 116166332)) (bm 116199036))) (bm 14454459)) (bm 14487163)))
noncomputable def t61 : Tr := (br 0 1 (br 2 3 t61_3 t61_5) (br 0 2 (br 0 3 t61_7 (br 1 3 (br 0 4 (br 0 5 (br 1 2 (br 1 4 (br 1 5 (br 2 3 (br 4 5 (br 2 4 (el 18347014556221620233) (br 3 4 (el 18346011527112474633) (br 2 5 (el 18347578880027705353) (br 3 5 (el 18347561494373384201) (bm 929331900))))) (br 2 4 (br 3 4 (el 18343234632813821961) (br 3 5 (el 18347033445487788041) (bm 116166461))) (br 2 5 (br 3 4 (el 18346049382044057609) (br 3 5 (el 18347596394904338441) (bm 929331389))) (bm 1814333)))) (br 2 4 (br 2 5 (br 3 4 (el 18343234906886422537) (br 3 5 (el 18347596669513809929) (br 4 5 (el 18347577505369735177) (bm 927764285)))) (br 3 5 (br 3 4 (el 18343234898535563273) (br 4 5 (el 18347561485150109705) (bm 929332026))) (bm 116166333))) (br 3 4 (br 2 5 (br 3 5 (el 18347596661162950665) (br 4 5 (el 18347578862453571593) (bm 929332026))) (br 3 5 (br 4 5 (el 18347559638544859145) (bm 927764285)) (bm 929331389))) (bm 116166332)))) (br 3 5 (br 2 3 (br 3 4 (br 2 4 (el 18343234614920763650) (br 2 5 (el 18346049364687870082) (br 4 5 (el 18346011527104086027) (bm 934055612)))) (br 4 5 (br 2 4 (el 18346980642929123586) (br 2 5 (el 18347543867894997122) (bm 934161977))) (bm 116801081))) (br 2 5 (br 2 4 (br 3 4 (el 18343234889933084738) (br 4 5 (el 18347543867894669378) (bm 934391353))) (br 3 4 (br 4 5 (el 18347543867894992932) (bm 934391353)) (bm 934055612))) (bm 116764217))) (bm 14597689))) (br 3 4 (br 1 5 (br 2 3 (br 3 5 (br 2 4 (el 18347033427594729730) (br 2 5 (el 18347596377548150914) (br 4 5 (el 18347561494364995595) (bm 931958461)))) (br 4 5 (br 2 4 (el 18347015827091398914) (br 2 5 (el 18347579052057272450) (bm 930491961))) (bm 116571705))) (br 2 4 (br 2 5 (br 3 5 (el 18347596652560472130) (br 4 5 (el 18347578777044820034) (bm 932556345))) (br 3 5 (br 4 5 (el 18347561485770999828) (bm 932556345)) (bm 931958461))) (bm 116502073))) (br 3 5 (br 4 5 (br 2 3 (br 2 4 (el 18346978958819481858) (br 2 5 (el 18347543283162437762) (bm 929331900))) (br 2 4 (br 2 5 (el 18347541908907317314) (bm 934115448)) (bm 932018808))) (bm 116166461)) (bm 116456184))) (bm 14564921))) (br 2 3 (br 1 4 (br 1 5 (br 2 4 (br 2 5 (br 3 4 (el 18343234907112851474) (br 3 5 (el 18347596669740238866) (br 4 5 (el 18347577505596164114) (bm 929599293)))) (br 3 5 (br 3 4 (el 18343234898527174667) (br 4 5 (el 18347561468591233092) (bm 930262585))) (bm 116305465))) (br 3 4 (br 2 5 (br 3 5 (el 18347596661154562059) (br 4 5 (el 18347579052057268260) (bm 930491961))) (br 3 5 (br 4 5 (el 18347559638536470539) (bm 929599293)) (bm 930491961))) (bm 116272697))) (br 2 5 (br 3 5 (br 2 4 (br 3 4 (el 18343234889798670354) (br 4 5 (el 18347543592882544658) (bm 934409336))) (br 3 4 (br 4 5 (el 18347543265764622347) (bm 929332026)) (bm 930183800))) (bm 115931896)) (bm 116166333))) (br 2 4 (br 3 4 (br 1 5 (br 2 5 (br 3 5 (el 18347596652426057746) (br 4 5 (el 18347579052056944658) (bm 932574328))) (br 3 5 (br 4 5 (el 18347561467768913931) (bm 929332026)) (bm 930445432))) (br 2 5 (br 3 5 (br 4 5 (el 18347541908772902930) (bm 929599293)) (bm 931724024)) (bm 931958461))) (bm 115931384)) (bm 116166332))) (bm 14528057))) (br 1 5 (br 3 5 (br 1 2 (br 1 4 (br 2 3 (br 3 4 (br 2 4 (el 18343234606008373257) (br 2 5 (el 18346049355775217673) (br 4 5 (el 18346011527099734025) (bm 934055612)))) (br 4 5 (br 2 4 (el 18346962938508087305) (br 2 5 (el 18347526164010242057) (bm 925095395))) (bm 115637051))) (br 2 5 (br 2 4 (br 3 4 (el 18343234881288540169) (br 4 5 (el 18347526163339022345) (bm 925087212))) (br 3 4 (br 4 5 (el 18347526164001660937) (bm 934375995)) (bm 934055612))) (bm 115636923))) (br 3 4 (br 4 5 (br 2 3 (br 2 4 (el 18346962508809525506) (br 2 5 (el 18347525734311942274) (bm 934377017))) (br 2 4 (br 2 5 (el 18347525458763143234) (bm 931429051)) (bm 932018745))) (bm 116161337)) (bm 116685049))) (br 2 3 (br 2 5 (br 1 4 (br 2 4 (br 3 4 (el 18343234880885868562) (br 4 5 (el 18347525888461096978) (bm 927234875))) (br 3 4 (br 4 5 (el 18347525734303604747) (bm 934377017)) (bm 930183737))) (br 2 4 (br 3 4 (br 4 5 (el 18347525733640853522) (bm 929276908)) (bm 933471203)) (bm 934055612))) (bm 116161209)) (bm 116684473))) (bm 14454525)) (bm 14519933))) (br 1 4 (br 3 4 (br 0 5 (br 1 2 (br 1 5 (br 2 3 (br 3 5 (br 2 4 (el 18347033418682339337) (br 2 5 (el 18347596368635498505) (br 4 5 (el 18347561494360643593) (bm 931958461)))) (br 4 5 (br 2 4 (el 18347015826500489225) (br 2 5 (el 18347579052002643977) (bm 925091307))) (bm 115637051))) (br 2 4 (br 2 5 (br 3 5 (el 18347596643915927561) (br 4 5 (el 18347578776453517321) (bm 925087212))) (br 3 5 (br 4 5 (el 18347561485770711049) (bm 932540987)) (bm 931958461))) (bm 115636411))) (br 3 5 (br 4 5 (br 2 3 (br 2 4 (el 18346980642127894786) (br 2 5 (el 18347543867630311554) (bm 934377017))) (br 2 4 (br 2 5 (el 18347543866959419458) (bm 934115385)) (bm 933525691))) (bm 116161337)) (bm 116423417))) (br 2 3 (br 2 4 (br 1 5 (br 2 5 (br 3 5 (el 18347596643513255954) (br 4 5 (el 18347579051331405842) (bm 927234875))) (br 3 5 (br 4 5 (el 18347561468590841867) (bm 932542009)) (bm 930445369))) (br 2 5 (br 3 5 (br 4 5 (el 18347543592081315858) (bm 929276908)) (bm 931374059)) (bm 931958461))) (bm 116160697)) (bm 116422329))) (br 1 5 (br 3 5 (br 4 5 (br 1 2 (br 2 3 (br 2 4 (el 18346961297591504905) (br 2 5 (el 18347525621934198793) (bm 929331900))) (br 2 4 (br 2 5 (el 18347524247947186185) (bm 931429051)) (bm 933525691))) (br 2 3 (br 2 4 (br 2 5 (el 18347524247544514578) (bm 931953337)) (bm 934049977)) (bm 934311609))) (bm 116166461)) (bm 116428541)) (bm 116493949))) (bm 14454524)) (bm 14519932))) (bm 1805947))) (br 1 2 t61_8 (bm 1805946))))
noncomputable def t62_0 : Tr := (br 2 3 (br 0 4 (br 1 2 (el 18347598457562990912) (br 1 4 (el 18347598457764120896) (br 2 4 (el 18347598457759895872) (br 1 5 (el 18347598457763858752) (br 2 5 (el 18347598457759633728) (br 4 5 (br 3 4 (el 18346296411056396608) (br 3 5 (br 0 3 (el 18347422861523949824) (br 0 5 (el 18347563667765483584) (bm 7467843194))) (bm 934256316))) (bm 115846973))))))) (br 0 5 (br 1 2 (el 18347598457562990784) (br 1 4 (el 18347598457764120768) (br 2 4 (el 18347598457759895744) (br 1 5 (el 18347598457763858624) (br 2 5 (el 18347598457759633600) (br 4 5 (br 3 5 (el 18347563667765483712) (br 0 3 (br 3 4 (el 18346437217834506368) (bm 7474122362)) (bm 7451098746))) (bm 931372733))))))) (br 0 3 (br 1 2 (el 18347597839087700352) (br 1 4 (el 18347597839288830336) (br 2 4 (el 18347597839284605312) (br 1 5 (el 18347597839288568192) (br 2 5 (el 18347597839284343168) (bm 933469884)))))) (br 3 4 (br 1 2 (el 18347598431294067073) (br 1 4 (el 18347598431294165281) (br 2 4 (el 18347598431294163218) (br 1 5 (el 18347598431294165153) (br 2 5 (el 18347598431294163090) (bm 7472389820)))))) (br 3 5 (br 1 2 (el 18347598430757196161) (br 1 4 (el 18347598430757294369) (br 2 4 (el 18347598430757292306) (br 1 5 (el 18347598430757294241) (br 2 5 (el 18347598430757292178) (bm 244855751982714)))))) (br 4 5 (br 1 4 (br 2 4 (el 18346736413376614689) (br 2 5 (br 1 2 (el 18347299638878671105) (br 1 5 (el 18347581251361542177) (bm 7469936187))) (bm 933990140))) (br 1 5 (br 2 5 (el 18347581251361542305) (br 1 2 (br 2 4 (el 18347018026396160129) (bm 7472029243)) (bm 7453191739))) (bm 933727996))) (bm 115588925))))))) (br 2 4 (br 1 4 (br 0 3 (el 18347598801093069184) (br 0 4 (el 18347598869812545856) (br 3 4 (el 18347598844080656673) (br 0 5 (el 18347598869812545728) (br 4 5 (el 18347580838306877729) (br 2 5 (br 3 5 (br 1 2 (el 18347317231060390145) (br 1 5 (el 18347598843543261217) (bm 7469903420))) (bm 929795901)) (bm 933990203))))))) (br 1 2 (br 0 3 (el 18347598663452985728) (br 0 4 (el 18347598732172462400) (br 3 4 (el 18347598706574496129) (br 0 5 (el 18347598732172462272) (br 1 5 (br 4 5 (el 18347580976349712513) (br 2 5 (br 3 5 (el 18347598706037100673) (bm 7438474813)) (bm 7453191739))) (br 2 5 (br 3 5 (el 18347598706037100929) (bm 7438507580)) (bm 15599612907059448))))))) (br 3 4 (br 0 3 (el 18347598783913204096) (br 0 4 (el 18347598852666382656) (br 0 5 (br 1 5 (br 2 5 (el 18347598869275412672) (br 3 5 (el 18347598860656117952) (br 4 5 (el 18347581268541376704) (bm 15559953027757757)))) (br 2 5 (br 3 5 (el 18347598852133130432) (br 4 5 (el 18347581259817062592) (bm 15559953027757757))) (br 3 5 (br 4 5 (el 18347563667765549248) (bm 7451029117)) (bm 7434280637)))) (br 1 5 (br 2 5 (br 3 5 (el 18347598843543523489) (br 4 5 (el 18347581251361673377) (bm 7453126205))) (br 3 5 (br 4 5 (el 18347563658906785953) (bm 7453126205)) (bm 7453773565))) (br 2 5 (br 3 5 (br 4 5 (el 18347546066049816658) (bm 7436996413)) (bm 7453126205)) (bm 7453126205)))))) (br 1 5 (br 2 5 (br 0 3 (el 18347598800555936128) (br 0 4 (el 18347598869275412800) (br 0 5 (el 18347598869275412672) (br 3 5 (el 18347598843543523489) (br 4 5 (el 18347581251361673377) (bm 7985428729246625341)))))) (br 3 5 (br 0 3 (el 18347598791634651520) (br 0 5 (el 18347598860656117952) (br 0 4 (br 4 5 (el 18347581199788345664) (bm 7453183675)) (bm 7453191739)))) (br 4 5 (br 0 4 (el 18347581199788345664) (br 0 5 (el 18347581268541376704) (bm 15560090466712251))) (bm 931643258)))) (br 2 5 (br 3 5 (br 0 3 (el 18347598783380099456) (br 0 5 (el 18347598852133130432) (br 0 4 (br 4 5 (el 18347581190527160640) (bm 15559953162237628)) (bm 7469903420)))) (br 4 5 (br 0 4 (el 18347581190527160640) (br 0 5 (el 18347581259817062592) (bm 7438503548))) (bm 929799997))) (br 3 5 (br 4 5 (br 0 5 (el 18347563667765549248) (br 0 3 (br 0 4 (el 18347422861524015360) (bm 15599604300347641)) (bm 15590816797227258))) (bm 932159165)) (bm 932159165))))))) (br 3 5 (br 0 5 (br 1 2 (el 18347598723217623232) (br 1 4 (el 18347598860656380096) (br 1 5 (el 18347598860656117952) (br 2 5 (el 18347598852129249472) (br 4 5 (el 18347563667765549248) (bm 929799997)))))) (br 0 3 (br 1 2 (el 18347598654196156800) (br 1 4 (el 18347598791634913664) (br 1 5 (el 18347598791634651520) (br 2 5 (el 18347598783376071040) (br 0 4 (br 4 5 (el 18347422861524015360) (bm 7438503548)) (bm 7438503548)))))) (br 2 5 (br 1 2 (el 18347598706037363073) (br 1 5 (el 18347598843543523489) (br 0 4 (br 1 4 (br 3 4 (el 18347598861193251136) (br 4 5 (el 18347581199184628032) (bm 15559953162237628))) (br 3 4 (br 4 5 (el 18347563048451660096) (bm 7467806332)) (bm 7434313404))) (br 1 4 (br 3 4 (br 4 5 (el 18347563520863852833) (bm 7469903420)) (bm 7470550780)) (bm 7469903420))))) (br 0 4 (br 3 4 (br 1 2 (el 18347598723754494272) (br 1 4 (el 18347598861193251136) (br 1 5 (el 18347598861192988992) (br 4 5 (el 18347563048451660096) (bm 7969377442025811580))))) (br 4 5 (br 1 4 (el 18347581199184628032) (br 1 5 (el 18347581199788345664) (bm 15590816797227258))) (bm 933474107))) (br 3 4 (br 4 5 (br 1 4 (el 18347563520863852833) (br 1 5 (el 18347563658906785953) (bm 7438507580))) (bm 929795901)) (bm 933990140)))))) (br 3 4 (br 0 4 (br 1 2 (el 18347598723754494272) (br 1 4 (el 18347598861193251136) (br 1 5 (el 18347598861192988992) (br 4 5 (el 18347563048451660096) (bm 934256316))))) (br 0 3 (br 1 2 (el 18347598654733027712) (br 1 4 (el 18347598792171784576) (br 1 5 (el 18347598792171522432) (br 0 5 (br 4 5 (el 18347563117741414528) (bm 7451098746)) (bm 15599672885345017))))) (br 0 5 (br 2 5 (br 1 2 (el 18347598731635591360) (br 1 5 (el 18347598869275412672) (br 1 4 (br 4 5 (el 18347581268474529984) (bm 7451090619)) (bm 15590885382224634)))) (br 4 5 (br 1 4 (el 18347581268474529984) (br 1 5 (el 18347581268541376704) (bm 15590885382224634))) (bm 931377019))) (br 2 5 (br 4 5 (br 1 5 (el 18347581251361673377) (br 1 2 (br 1 4 (el 18347299638878802177) (bm 15599681492056824)) (bm 7469936187))) (bm 931893115)) (bm 931892989))))) (br 2 5 (br 1 5 (br 0 3 (el 18347598800555936128) (br 0 4 (el 18347598869275412800) (br 0 5 (el 18347598869275412672) (br 4 5 (el 18347581251361673377) (bm 3808501317181))))) (br 1 2 (br 0 3 (el 18347598662916114816) (br 0 4 (el 18347598731635591488) (br 0 5 (el 18347598731635591360) (br 1 4 (br 4 5 (el 18347299638878802177) (bm 30468010735864)) (bm 998742245462309048))))) (br 1 4 (br 4 5 (br 0 4 (el 18347581199184628032) (br 0 5 (el 18347581268474529984) (bm 15560021881714875))) (bm 933740346)) (bm 934256316)))) (br 4 5 (br 0 4 (br 1 4 (el 18347581199184628032) (br 1 5 (el 18347581199788345664) (bm 933736188))) (br 0 5 (br 1 4 (el 18347581268474529984) (br 1 5 (el 18347581268541376704) (bm 7469928123))) (bm 933474044))) (bm 116113213)))))))
noncomputable def t62_1 : Tr := (br 1 5 (br 1 2 (br 0 5 (br 2 3 (el 18347598595001551040) (br 2 4 (el 18347598869611022528) (br 2 5 (el 18347598869074151616) (br 3 5 (el 18347598860723292352) (br 4 5 (el 18347581268541442240) (bm 931639163)))))) (br 0 3 (br 2 3 (el 18347598526282074496) (br 2 4 (el 18347598800891545984) (br 2 5 (el 18347598800354675072) (br 3 5 (el 18347598791970261376) (br 0 4 (br 4 5 (el 18347440462300055808) (bm 7453183675)) (bm 15595274838801146)))))) (br 0 4 (br 2 3 (el 18347598595001551168) (br 2 4 (el 18347598869611022656) (br 2 5 (el 18347598869074151744) (br 4 5 (el 18347581199788411200) (bm 7453183675))))) (br 3 5 (br 2 3 (el 18347598568531693761) (br 2 5 (el 18347598843543425217) (br 2 4 (br 4 5 (el 18347580976349712577) (bm 7453191739)) (bm 7472029243)))) (br 4 5 (br 2 4 (el 18347580976349712577) (br 2 5 (el 18347581251361575105) (bm 15595292035480312))) (bm 931630971)))))) (br 2 5 (br 2 3 (br 0 3 (el 18347598800551711104) (br 0 4 (el 18347598869271187776) (br 0 5 (el 18347598869271187648) (br 3 5 (el 18347598843543521426) (br 4 5 (el 18347581251361671314) (bm 7453773691)))))) (br 2 4 (br 0 3 (el 18347598800551580032) (br 0 4 (el 18347598869271056704) (br 0 5 (el 18347598869271056576) (br 3 5 (el 18347598843543521362) (br 4 5 (el 18347581251361671250) (bm 244245717691965)))))) (br 3 4 (br 0 3 (br 3 5 (el 18347596592938326400) (br 4 5 (br 0 4 (el 18347438263263928576) (br 0 5 (el 18347579069505593472) (bm 7451098746))) (bm 934518459))) (br 0 4 (br 4 5 (el 18347579000752283968) (br 0 5 (br 3 5 (el 18347596661691504704) (bm 7434325626)) (bm 7459806907))) (bm 931372731))) (bm 115846908)))) (br 3 5 (br 2 3 (br 0 3 (el 18347598791961778560) (br 0 5 (el 18347598860714956992) (br 0 4 (br 2 4 (br 3 4 (el 18347598852536176960) (br 4 5 (el 18347581190527553856) (bm 15560090332232380))) (br 3 4 (br 4 5 (el 18347563666926917952) (bm 7467802300)) (bm 7434317436))) (br 2 4 (br 3 4 (br 4 5 (el 18347545791171713298) (bm 7436414524)) (bm 7470550780)) (bm 7436414524))))) (br 3 4 (br 0 3 (el 18347598791961581952) (br 0 4 (br 0 5 (el 18347598860714760256) (br 4 5 (el 18347581199775539520) (bm 7453183675))) (br 2 4 (br 0 5 (br 4 5 (el 18347581268528914624) (bm 7451094651)) (bm 7453191739)) (bm 7472025211)))) (br 2 4 (br 4 5 (br 0 4 (el 18347581199775605056) (br 0 5 (el 18347581268528914624) (bm 7451094651))) (bm 934518459)) (bm 933994236)))) (br 4 5 (br 2 4 (br 0 4 (el 18347581199775605056) (br 0 5 (el 18347581268528914624) (br 0 3 (br 2 3 (br 3 4 (el 18347598783514710400) (bm 15560090466712251)) (bm 7467835067)) (bm 7453191739)))) (br 3 4 (br 0 4 (el 18347581199775539520) (br 0 3 (br 0 5 (el 18347581268528849024) (bm 15595274838801146)) (bm 15590893972191993))) (bm 934256316))) (br 2 3 (br 2 4 (br 3 4 (br 0 3 (el 18347598783514710400) (br 0 4 (el 18347598852536176960) (bm 7451094651))) (bm 933994236)) (bm 934256316)) (bm 934518459)))))) (br 3 4 (br 2 3 (br 0 4 (br 1 2 (el 18347598577658499392) (br 2 4 (el 18347598852536176960) (br 2 5 (el 18347598852535914816) (br 4 5 (el 18347563666926917952) (bm 929541949))))) (br 0 3 (br 1 2 (el 18347598508637032832) (br 2 4 (el 18347598783514710400) (br 2 5 (el 18347598783514448256) (br 0 5 (br 4 5 (el 18347563667497195648) (bm 7436373693)) (bm 7436406460))))) (br 0 5 (br 3 5 (br 1 2 (el 18347598577121628352) (br 2 4 (el 18347598851999305920) (br 2 5 (el 18347598851999043776) (br 4 5 (el 18347563667765516480) (bm 7951358094639996605))))) (br 4 5 (br 2 4 (el 18347581259817455808) (br 2 5 (el 18347581259951411392) (bm 15590893972191993))) (bm 931372923))) (br 3 5 (br 4 5 (br 2 4 (el 18347545791171713298) (br 2 5 (el 18347546066720708754) (bm 7436414524))) (bm 929533757)) (bm 931630845))))) (br 2 4 (br 0 3 (br 1 2 (el 18347598783917461888) (br 2 5 (el 18347598783916970368) (br 3 5 (el 18347598783912712576) (bm 931639037)))) (br 0 4 (br 1 2 (el 18347598852670492992) (br 2 5 (el 18347598852670001472) (br 0 5 (br 3 5 (el 18347598852665890880) (bm 7453118141)) (bm 7453183675)))) (br 0 5 (br 4 5 (br 1 2 (el 18347580984939647168) (br 2 5 (el 18347581259817062592) (br 3 5 (el 18347563667761324224) (bm 7951358094639996605)))) (br 2 5 (br 3 5 (el 18347598852133130432) (bm 7451029117)) (bm 7451094651))) (br 2 5 (br 3 5 (br 4 5 (el 18347546066049816658) (bm 7422316349)) (bm 7453126205)) (bm 7453191739))))) (br 2 5 (br 3 5 (br 0 3 (el 18347598783375841664) (br 0 4 (br 0 5 (el 18347598852129019968) (br 4 5 (el 18347581191189799232) (bm 7455280763))) (br 1 2 (br 0 5 (el 18347598852133359808) (bm 7469936187)) (bm 7469928123)))) (br 4 5 (br 0 4 (el 18347581191189799232) (br 0 5 (br 1 2 (el 18347581259951509696) (br 0 3 (el 18347581259943108736) (bm 993921351082343162))) (bm 15599672885345017))) (bm 931897211))) (br 3 5 (br 4 5 (br 0 3 (br 0 4 (el 18347422860718479616) (br 0 5 (el 18347563667496736896) (bm 7438503548))) (br 0 4 (br 0 5 (el 18347563666926458944) (bm 7455280763)) (bm 7472025211))) (bm 929799997)) (bm 931897085))))) (br 3 5 (br 2 3 (br 0 5 (br 1 2 (el 18347598577121628352) (br 2 4 (el 18347598851999305920) (br 2 5 (el 18347598851999043776) (br 4 5 (el 18347563667765516480) (bm 3807425478333))))) (br 0 3 (br 1 2 (el 18347598508100161920) (br 2 4 (el 18347598782977839488) (br 2 5 (el 18347598782977577344) (br 0 4 (br 4 5 (el 18347422861523982592) (bm 30459403827770)) (bm 994203444266170618))))) (br 0 4 (br 4 5 (br 2 4 (el 18347581190527553856) (br 2 5 (el 18347581191198380352) (bm 15590825387194617))) (bm 933470011)) (bm 933727996)))) (br 2 5 (br 1 2 (br 0 3 (el 18347598783380328832) (br 0 5 (el 18347598852133359808) (br 0 4 (br 4 5 (el 18347581191198478656) (bm 7467806332)) (bm 7469903420)))) (br 2 4 (br 0 3 (el 18347598783380099456) (br 0 5 (el 18347598852133130432) (br 0 4 (br 4 5 (el 18347581190527160640) (bm 993921900435764924)) (bm 244795607723580)))) (bm 933736188))) (br 2 4 (br 4 5 (br 0 5 (el 18347563667761324224) (br 0 4 (br 1 2 (el 18347580915649745216) (br 0 3 (el 18347422861519659264) (bm 993921900704200954))) (bm 15599604300347641))) (bm 933994299)) (bm 933994236)))) (br 4 5 (br 2 4 (br 0 4 (br 1 2 (el 18347580915649745216) (br 2 3 (el 18347581190527553856) (br 2 5 (el 18347581190527160640) (bm 3807425478333)))) (br 0 5 (br 1 2 (el 18347580984939647168) (br 2 3 (el 18347581259817455808) (br 2 5 (el 18347581259817062592) (bm 242725179727549)))) (bm 933469948))) (br 2 5 (br 1 2 (br 0 4 (el 18347581191198478656) (br 0 5 (el 18347581259951509696) (bm 7467839099))) (br 2 3 (br 0 4 (el 18347581191198380352) (br 0 5 (el 18347581259951411392) (bm 994203444131952827))) (bm 3807442288316))) (bm 933994236))) (bm 115851069)))))
noncomputable def t62_2 : Tr := (br 0 5 (br 1 2 (br 2 3 (br 1 3 (el 18347597839255472288) (br 1 4 (el 18347598526450108576) (br 3 4 (el 18347598508637114528) (br 1 5 (el 18347598526449846432) (br 3 5 (el 18347598508100243616) (br 2 5 (br 4 5 (el 18347581259951460512) (bm 7453515517)) (bm 7451094651))))))) (br 2 5 (br 1 3 (el 18347598731803363488) (br 1 4 (el 18347598869242185888) (br 1 5 (el 18347598869241923744) (br 3 5 (el 18347598852133441696) (br 4 5 (el 18347581259951591584) (bm 7451029117)))))) (br 3 4 (br 1 3 (el 18347598723452504224) (br 1 4 (el 18347598861226870944) (br 1 5 (br 3 5 (el 18347598860689737888) (br 4 5 (el 18347581268541442208) (bm 15555563571181245))) (br 3 5 (br 4 5 (el 18347563667496736928) (bm 15555563571181245)) (bm 7417503485))))) (br 3 5 (br 1 3 (el 18347598722915633312) (br 1 5 (el 18347598860689737888) (br 1 4 (br 4 5 (el 18347581131035642016) (bm 7451090682)) (bm 15555701010135739)))) (br 4 5 (br 1 4 (el 18347581131035642016) (br 1 5 (el 18347581268541442208) (bm 15555701010135739))) (bm 931381114)))))) (br 1 3 (br 1 5 (br 2 3 (el 18347597839322122400) (br 3 4 (el 18347598860890998944) (br 2 5 (el 18347598869308967072) (br 3 5 (el 18347598860354128032) (br 4 5 (el 18347581268541376672) (bm 7450992381)))))) (br 1 4 (br 2 3 (el 18347597839322384544) (br 3 4 (el 18347598860891261088) (br 3 5 (el 18347598860354390176) (br 4 5 (el 18347581268474529952) (bm 7451090682))))) (br 2 5 (br 2 3 (el 18347597839317979296) (br 3 5 (el 18347598852129101984) (br 3 4 (br 4 5 (el 18347563117741414560) (bm 7451098746)) (bm 7474122362)))) (br 4 5 (br 3 4 (el 18347563117741414560) (br 3 5 (el 18347563667765401760) (bm 7474122362))) (bm 931372922))))) (br 3 4 (br 3 5 (br 1 4 (el 18347598861217929376) (br 1 5 (el 18347598860681058464) (br 2 5 (el 18347598852128872608) (br 4 5 (el 18347563667496736928) (bm 7436373882))))) (br 2 3 (br 1 4 (el 18347598861218388128) (br 2 5 (el 18347598852234006688) (br 4 5 (el 18347563667497195680) (bm 7451098746)))) (br 1 5 (br 1 4 (el 18347598861226412192) (br 4 5 (el 18347581268528849056) (bm 7451098746))) (br 2 5 (br 4 5 (el 18347581259943108768) (bm 7474487034)) (bm 7453515517))))) (br 2 3 (br 2 5 (br 1 5 (el 18347598869304823968) (br 3 5 (el 18347598851697135776) (br 4 5 (el 18347581259951493280) (bm 7450992381)))) (br 3 5 (br 1 5 (el 18347598860681255072) (br 4 5 (el 18347563667765368992) (bm 7436373882))) (br 1 4 (br 1 5 (br 4 5 (el 18347581268474136736) (bm 7436373882)) (bm 7440932730)) (bm 7474122362)))) (br 1 4 (br 1 5 (br 2 5 (el 18347598869308836000) (br 3 5 (el 18347598860689541280) (br 4 5 (el 18347581268474136736) (bm 998143484054500477)))) (br 4 5 (br 2 5 (el 18347581259943207072) (br 3 5 (el 18347563667761356960) (bm 7985147185533660797))) (bm 7451090682))) (bm 931372794)))))) (br 2 4 (br 1 2 (br 2 3 (br 1 3 (el 18347597839246840193) (br 1 4 (el 18347598526441607489) (br 3 4 (el 18347598508637110538) (br 1 5 (el 18347598526441607361) (br 3 5 (el 18347598508100239626) (bm 7470292732)))))) (br 3 4 (br 1 3 (el 18347598706570238337) (br 1 4 (el 18347598844076464449) (br 1 5 (br 2 5 (br 3 5 (el 18347598843543179457) (br 4 5 (el 18347581251227111617) (bm 7453126205))) (br 3 5 (br 4 5 (el 18347563659175631041) (bm 7453126205)) (bm 7455870653))) (br 2 5 (br 3 5 (br 4 5 (el 18347546066049816650) (bm 7422316349)) (bm 7453126205)) (bm 7453126205))))) (br 2 5 (br 3 5 (br 1 3 (el 18347598706037117313) (br 1 5 (el 18347598843543179457) (br 1 4 (br 4 5 (el 18347581113184178497) (bm 7469903420)) (bm 7469903420)))) (br 4 5 (br 1 4 (el 18347581113184178497) (br 1 5 (el 18347581251227111617) (bm 7438507580))) (bm 929795901))) (br 3 5 (br 4 5 (br 1 5 (el 18347563659175631041) (br 1 3 (br 1 4 (el 18347282046692694273) (bm 15599612907059448)) (bm 7469940282))) (bm 932155069)) (bm 932155069))))) (br 1 4 (br 3 4 (br 1 3 (el 18347598844076300577) (br 2 3 (el 18347598844076460307) (br 1 5 (el 18347598844076464225) (br 3 5 (el 18347598844076460083) (bm 7474487034))))) (br 1 3 (br 2 3 (el 18347597839314047265) (br 3 5 (br 4 5 (el 18347563521669404961) (br 1 5 (br 2 5 (el 18347598843543277601) (bm 7419608637)) (bm 7457381946))) (br 1 5 (br 2 5 (br 4 5 (el 18347581250623229985) (bm 7436996413)) (bm 7419608637)) (bm 7457381946)))) (br 1 5 (br 2 5 (br 3 5 (el 18347598843543277665) (br 4 5 (el 18347581250623230049) (bm 7436996413))) (br 3 5 (br 4 5 (el 18347563659175630945) (bm 7455870842)) (bm 7455870842))) (br 2 3 (br 2 5 (br 3 5 (br 4 5 (el 18347546066855172122) (bm 7419608637)) (bm 7419608637)) (bm 7455870653)) (bm 7469940282))))) (br 1 5 (br 3 5 (br 2 5 (br 1 3 (el 18347598843539167393) (br 2 3 (el 18347598843534940186) (br 3 4 (el 18347598843539327027) (bm 7474487034)))) (br 4 5 (br 1 3 (el 18347563659175467169) (br 2 3 (el 18347563659175626899) (br 3 4 (el 18347563659175626803) (bm 244237276720763)))) (bm 931630970))) (br 1 3 (br 2 3 (br 2 5 (el 18347597839313784993) (br 3 4 (br 4 5 (el 18346437209244571809) (bm 7453195834)) (bm 7474126394))) (br 3 4 (br 4 5 (el 18347563109151479969) (bm 7453195834)) (bm 7474126394))) (br 2 3 (br 3 4 (br 2 5 (br 4 5 (el 18347545516294314010) (bm 7419641404)) (bm 7453195834)) (bm 7419641404)) (bm 7453195834)))) (br 2 5 (br 4 5 (br 2 3 (br 3 4 (el 18347545516294314010) (br 3 5 (el 18347546066855172122) (bm 7419641404))) (br 3 4 (br 3 5 (el 18347546066049814579) (bm 7453195834)) (bm 7469940282))) (bm 927436605)) (bm 931630781))))) (br 2 5 (br 1 5 (br 3 5 (br 1 2 (el 18347598843539331265) (br 1 3 (el 18347598843539167393) (br 2 3 (el 18347598843539327123) (br 1 4 (el 18347598843539331169) (br 3 4 (el 18347598843539327027) (bm 244787032501883)))))) (br 2 3 (br 1 2 (el 18347598526441345217) (br 1 3 (el 18347597839313784993) (br 1 4 (br 3 4 (br 4 5 (el 18347562971108710497) (bm 7472647994)) (bm 7472647994)) (bm 7472647868)))) (br 3 4 (br 4 5 (br 1 3 (el 18347563109151479969) (br 1 4 (el 18347562971108710497) (bm 7453195834))) (bm 934252220)) (bm 934252220)))) (br 1 2 (br 2 3 (br 1 3 (el 18347597839246578049) (br 1 4 (el 18347598526441345345) (br 3 4 (el 18347598508637110410) (br 3 5 (el 18347598508100239498) (bm 244787032501883))))) (br 1 3 (br 3 5 (el 18347598706033105281) (br 1 4 (br 3 4 (br 4 5 (el 18347281496131836161) (bm 7438507580)) (bm 7443287740)) (bm 15599681492056824))) (br 1 4 (br 3 4 (br 4 5 (el 18347562971108710721) (bm 7469903420)) (bm 7472647868)) (bm 7469903420)))) (br 1 4 (br 4 5 (br 3 4 (br 1 3 (el 18347562971108546849) (br 2 3 (el 18347562971108706579) (br 3 5 (el 18347562971108706355) (bm 244787032501883)))) (br 1 3 (br 3 5 (el 18347563521669404961) (bm 7457381946)) (bm 7469940282))) (bm 933728058)) (bm 933727932)))) (br 4 5 (br 1 4 (br 3 4 (br 1 2 (el 18347562971108710721) (br 1 3 (el 18347562971108546849) (br 2 3 (el 18347562971108706579) (br 1 5 (el 18347562971108710497) (br 3 5 (el 18347562971108706355) (bm 8003165984237432443)))))) (br 3 5 (br 1 3 (el 18347563521669404961) (br 1 5 (el 18347563659175630945) (bm 7469940282))) (bm 934252220))) (br 1 5 (br 3 5 (br 1 2 (el 18347563659175631041) (br 1 3 (el 18347563659175467169) (br 2 3 (el 18347563659175626899) (br 3 4 (el 18347563659175626803) (bm 8003165984237432443))))) (br 1 3 (br 3 4 (el 18347563109151479969) (bm 7474126394)) (bm 7453195834))) (bm 933727932))) (bm 115584829)))))
noncomputable def t62_3 : Tr := (br 0 5 (br 1 2 (br 2 4 (br 1 3 (el 18347598732340234336) (br 1 4 (el 18347598869779056736) (br 3 4 (el 18347598852670574688) (br 1 5 (el 18347598869778794592) (br 4 5 (el 18347580915649826912) (br 2 5 (br 3 5 (el 18347598852133179488) (bm 7436738365)) (bm 7434317436))))))) (br 2 5 (br 1 3 (el 18347598731803363424) (br 1 4 (el 18347598869242185824) (br 1 5 (el 18347598869241923680) (br 3 5 (el 18347598852133441632) (br 4 5 (el 18347581259951591520) (bm 7434284669)))))) (br 3 4 (br 1 3 (el 18347598723754494048) (br 1 4 (el 18347598861260425312) (br 1 5 (br 3 5 (el 18347598860723292256) (br 4 5 (el 18347581268507887712) (bm 15555632156178621))) (br 3 5 (br 4 5 (el 18347563666926458976) (bm 7417470781)) (bm 15555632156178621))))) (br 3 5 (br 1 3 (el 18347598723217623136) (br 1 5 (el 18347598860723292256) (br 1 4 (br 4 5 (el 18347581130465216608) (bm 15555700875655868)) (bm 15555700875655868)))) (br 4 5 (br 1 4 (el 18347581130465216608) (br 1 5 (el 18347581268507887712) (bm 7434313530))) (bm 929288058)))))) (br 1 3 (br 1 4 (br 2 4 (el 18347598869846100064) (br 3 4 (el 18347598861193250912) (br 3 5 (el 18347598860656380000) (br 4 5 (el 18347581267904104544) (br 1 5 (br 2 5 (el 18347598869308704864) (bm 7434215229)) (bm 7434313530)))))) (br 1 5 (br 3 4 (el 18347598861192988768) (br 2 5 (el 18347598869308967008) (br 3 5 (el 18347598860656117856) (br 4 5 (el 18347581268507822176) (bm 7434280826))))) (br 3 4 (br 2 4 (el 18347598852666382432) (br 4 5 (el 18347563048451659872) (br 2 5 (br 3 5 (el 18347598852128987232) (bm 7472389946)) (bm 7436738365)))) (br 3 5 (br 2 5 (el 18347598852129249376) (br 4 5 (el 18347563667765549152) (bm 7455612794))) (br 2 4 (br 2 5 (br 4 5 (el 18347581259246719072) (bm 7434215229)) (bm 7434280826)) (bm 7434313530)))))) (br 1 4 (br 1 5 (br 2 4 (el 18347598869845706848) (br 3 4 (el 18347598861259966560) (br 2 5 (el 18347598869308835936) (br 3 5 (el 18347598860723095648) (br 4 5 (el 18347581267903711328) (bm 7949105743862243133)))))) (br 2 5 (br 2 4 (el 18347598869841563744) (br 4 5 (el 18347581259942928480) (br 3 4 (br 3 5 (el 18347598861251631200) (bm 7434325626)) (bm 7434325626)))) (br 3 5 (br 3 4 (el 18347598861251631200) (br 4 5 (el 18347563667761078368) (bm 7434325626))) (bm 929275770)))) (br 2 4 (br 2 5 (br 3 4 (el 18347598852670083168) (br 1 5 (el 18347598869304692832) (br 3 5 (el 18347598852133212256) (br 4 5 (el 18347581259246719072) (bm 7949105743862243133))))) (br 3 5 (br 3 4 (el 18347598852665890912) (br 4 5 (el 18347563667761045600) (bm 7434325626))) (br 1 5 (br 4 5 (el 18347581268495081568) (bm 7434325626)) (bm 7453118330)))) (br 3 4 (br 3 5 (br 1 5 (el 18347598860714760288) (br 2 5 (el 18347598852129020000) (br 4 5 (el 18347563666926458976) (bm 7949105743862243133)))) (br 4 5 (br 1 5 (el 18347581268495016032) (br 2 5 (el 18347581259942830176) (bm 993639257495861437))) (bm 7434325626))) (bm 929275706)))))) (br 2 3 (br 1 2 (br 2 4 (br 1 3 (el 18347598732331602305) (br 1 4 (el 18347598869770555713) (br 3 4 (el 18347598852670570762) (br 1 5 (el 18347598869770555585) (br 4 5 (el 18347580915649822986) (bm 7470292795)))))) (br 3 4 (br 1 3 (el 18347598723741669761) (br 1 4 (el 18347598861247895873) (br 1 5 (br 2 5 (br 3 5 (el 18347598843409092801) (br 4 5 (el 18347581251361460417) (bm 7436381757))) (br 3 5 (br 4 5 (el 18347563659175581889) (bm 7455870653)) (bm 7436381757))) (br 2 5 (br 3 5 (br 4 5 (el 18347546066720708746) (bm 7436381757)) (bm 7424413437)) (bm 7436381757))))) (br 2 5 (br 3 5 (br 1 3 (el 18347598705634595201) (br 1 5 (el 18347598843409092801) (br 1 4 (br 4 5 (el 18347581113855398209) (bm 7455284795)) (bm 7469936187)))) (br 4 5 (br 1 4 (el 18347581113855398209) (br 1 5 (el 18347581251361460417) (bm 7469936187))) (bm 931892989))) (br 3 5 (br 4 5 (br 1 5 (el 18347563659175581889) (br 1 3 (br 1 4 (el 18347282046692645121) (bm 7469940282)) (bm 15595223450482936))) (bm 932155069)) (bm 932155069))))) (br 1 3 (br 3 4 (br 1 4 (el 18347598861180623137) (br 2 4 (el 18347598852666376459) (br 1 5 (el 18347598861180623009) (br 4 5 (el 18347563048451653899) (bm 7472389946))))) (br 1 4 (br 2 4 (el 18347598869837762849) (br 3 5 (br 4 5 (el 18347563521669355809) (br 1 5 (br 2 5 (el 18347598843073646625) (bm 7419608637)) (bm 7457381946))) (br 1 5 (br 2 5 (br 4 5 (el 18347581251361558561) (bm 7453773565)) (bm 7419608637)) (bm 7457381946)))) (br 1 5 (br 2 5 (br 3 5 (el 18347598843073646753) (br 4 5 (el 18347581251361558689) (bm 7453773565))) (br 3 5 (br 4 5 (el 18347563659175418017) (bm 7441190778)) (bm 7441190778))) (br 2 4 (br 2 5 (br 3 5 (br 4 5 (el 18347546066855155738) (bm 7419608637)) (bm 7419608637)) (bm 7441190589)) (bm 7469940282))))) (br 1 5 (br 4 5 (br 2 5 (br 1 4 (el 18347581251352993889) (br 2 4 (el 18347581251348766746) (br 3 4 (el 18347581251353282612) (bm 7472389946)))) (br 3 5 (br 1 4 (el 18347563659171143777) (br 2 4 (el 18347563659171432532) (br 3 4 (el 18347563659162656795) (bm 243687504129660)))) (bm 929533818))) (br 1 4 (br 2 4 (br 2 5 (el 18347598869837369441) (br 3 4 (br 3 5 (el 18343234899596793953) (bm 7436422714)) (bm 7436422714))) (br 3 4 (br 3 5 (el 18347598861247436897) (bm 7436422714)) (bm 7436422714))) (br 2 4 (br 3 4 (br 2 5 (br 3 5 (el 18347598852657305626) (bm 7419645499)) (bm 7436422714)) (bm 7419645499)) (bm 7436422714)))) (br 2 5 (br 3 5 (br 2 4 (br 3 4 (el 18347598852657305626) (br 4 5 (el 18347546066850848794) (bm 7419645499))) (br 3 4 (br 4 5 (el 18347546066712371227) (bm 7436422714)) (bm 7469940282))) (bm 927436541)) (bm 929533629))))) (br 2 5 (br 1 5 (br 4 5 (br 1 2 (el 18347581251353288897) (br 1 3 (el 18347581251353288865) (br 1 4 (el 18347581251352993889) (br 2 4 (el 18347581251353282644) (br 3 4 (el 18347581251353282612) (bm 244787015691900)))))) (br 2 4 (br 1 2 (el 18347598869770162369) (br 1 4 (el 18347598869837369441) (br 1 3 (br 3 4 (br 3 5 (el 18347598861180164257) (bm 7474745082)) (bm 7474745082)) (bm 7474745019)))) (br 3 4 (br 3 5 (br 1 3 (el 18347598861180164257) (br 1 4 (el 18347598861247436897) (bm 7474745019))) (bm 934514363)) (bm 934514363)))) (br 1 2 (br 2 4 (br 1 3 (el 18347598732331209089) (br 1 4 (el 18347598869770162497) (br 3 4 (el 18347598852670570570) (br 4 5 (el 18347580915649822794) (bm 244787015691900))))) (br 1 4 (br 4 5 (el 18347581113846931777) (br 1 3 (br 3 4 (br 3 5 (el 18347317248764500225) (bm 7455284795)) (bm 7460064955)) (bm 7455284795))) (br 1 3 (br 3 4 (br 3 5 (el 18347598723741211009) (bm 7469936187)) (bm 7474745019)) (bm 7469936187)))) (br 1 3 (br 3 5 (br 3 4 (br 1 4 (el 18347598861180164385) (br 2 4 (el 18347598852666376235) (br 4 5 (el 18347563048451653675) (bm 244787015691900)))) (br 1 4 (br 4 5 (el 18347563521665081633) (bm 7457381946)) (bm 7469940282))) (bm 933727994)) (bm 933727931)))) (br 3 5 (br 1 3 (br 3 4 (br 1 2 (el 18347598723741211009) (br 1 4 (el 18347598861180164385) (br 2 4 (el 18347598852666376235) (br 1 5 (el 18347598861180164257) (br 4 5 (el 18347563048451653675) (bm 7985151585593699964)))))) (br 4 5 (br 1 4 (el 18347563521665081633) (br 1 5 (el 18347563659171438753) (bm 7469940282))) (bm 934514363))) (br 1 5 (br 4 5 (br 1 2 (el 18347563659171438785) (br 1 4 (el 18347563659171143777) (br 2 4 (el 18347563659171432532) (br 3 4 (el 18347563659171432500) (bm 7985151585593699964))))) (br 1 4 (br 3 4 (el 18347598861247436897) (bm 7436422714)) (bm 7474745019))) (bm 933727931))) (bm 115584765)))))
noncomputable def t62_4 : Tr := (br 2 3 (br 1 2 (br 2 5 (br 0 5 (br 1 3 (el 18347598731794469249) (br 1 4 (el 18347598869233422657) (br 1 5 (el 18347598869233422529) (br 3 5 (el 18347598852133437578) (br 4 5 (el 18347581259951587466) (bm 7453515643)))))) (br 3 4 (br 1 3 (el 18347598706171466113) (br 1 4 (el 18347598843945963841) (br 1 5 (br 3 5 (el 18347598843409092801) (br 4 5 (el 18347581251361460417) (bm 7417503611))) (br 3 5 (br 4 5 (el 18347546066720708746) (bm 7417470781)) (bm 7417503485))))) (br 3 5 (br 1 3 (el 18347598705634595201) (br 1 5 (el 18347598843409092801) (br 1 4 (br 4 5 (el 18347581113855398209) (bm 7417536315)) (bm 7417536252)))) (br 4 5 (br 1 4 (el 18347581113855398209) (br 1 5 (el 18347581251361460417) (bm 7417536252))) (bm 927186749))))) (br 2 4 (br 3 4 (br 1 3 (el 18347598706171728257) (br 1 4 (el 18347598843946225985) (br 1 5 (br 3 5 (el 18347598843409354945) (br 4 5 (el 18347581251227504833) (bm 7453191739))) (br 3 5 (br 4 5 (el 18347546066049620234) (bm 7436414524)) (bm 7453191739))))) (br 3 5 (br 1 3 (el 18347598705634857345) (br 1 5 (el 18347598843409354945) (br 1 4 (br 4 5 (el 18347581113184571713) (bm 7436414524)) (bm 7426510588)))) (br 4 5 (br 1 4 (el 18347581113184571713) (br 1 5 (el 18347581251227504833) (bm 7453191739))) (bm 933990140)))) (br 3 5 (br 0 5 (br 1 3 (el 18347598723204536705) (br 1 5 (el 18347598860710762689) (br 1 4 (br 3 4 (br 4 5 (el 18347563658303428929) (bm 7472647868)) (bm 7436414524)) (bm 7436414524)))) (br 4 5 (br 1 5 (el 18347563659175581889) (br 1 4 (br 1 3 (el 18347282046692645121) (br 3 4 (el 18347563658303428929) (bm 262911372140484665791971))) (bm 7434313404))) (bm 929279805))) (br 3 4 (br 4 5 (br 1 4 (el 18347563658303428929) (br 1 3 (br 1 5 (el 18347563658907244673) (bm 7453195834)) (bm 15595292035480312))) (bm 934252220)) (bm 934252220))))) (br 1 3 (br 3 5 (br 0 5 (br 1 4 (el 18347598860643490081) (br 1 5 (el 18347598860643489953) (br 2 5 (el 18347598852129243275) (br 4 5 (el 18347563667765543051) (bm 7455612794))))) (br 1 4 (br 2 4 (el 18347598843073909025) (br 4 5 (el 18347563521669355809) (br 1 5 (br 2 5 (el 18347598843073646625) (bm 7434215229)) (bm 7434313530)))) (br 1 5 (br 2 5 (el 18347598843073646753) (br 4 5 (el 18347563659175418017) (bm 7434280826))) (br 2 4 (br 2 5 (br 4 5 (el 18347546066855155738) (bm 7434215229)) (bm 7434280637)) (bm 7434313404))))) (br 3 4 (br 1 4 (br 2 4 (el 18347598843610779937) (br 4 5 (el 18347563520864311585) (br 1 5 (br 2 5 (el 18347598843610517537) (bm 7419641404)) (bm 7443287866)))) (br 1 5 (br 2 5 (el 18347598843610517665) (br 4 5 (el 18347563658907244705) (bm 7453195834))) (br 2 4 (br 2 5 (br 4 5 (el 18347546066050111514) (bm 7419641404)) (bm 7453195834)) (bm 7443287740)))) (br 1 5 (br 2 5 (br 0 5 (el 18347598869300629665) (br 4 5 (el 18347581251361558689) (bm 7403192125))) (br 1 4 (br 2 4 (br 4 5 (el 18347581250623623201) (bm 7470550780)) (bm 7419641404)) (bm 7474126394))) (br 1 4 (br 2 4 (br 4 5 (el 18347581250623623457) (bm 7470550780)) (bm 7443287866)) (bm 7419641404))))) (br 1 4 (br 2 4 (br 1 5 (br 2 5 (br 3 4 (el 18347598844080148577) (br 0 5 (el 18347598869300498529) (br 3 5 (el 18347598843543277665) (br 4 5 (el 18347581250623230049) (bm 7949105743862243133))))) (br 3 5 (br 3 4 (el 18347598844075956321) (br 4 5 (el 18347563659171094625) (bm 7436422714))) (br 0 5 (br 4 5 (el 18347581268457316449) (bm 7436422714)) (bm 7451025274)))) (br 2 5 (br 3 5 (br 3 4 (el 18347598844071565338) (br 4 5 (el 18347546066850832410) (bm 7419645499))) (br 0 5 (br 4 5 (el 18347581259934490650) (bm 7419645499)) (bm 7450992381))) (br 0 5 (br 3 5 (br 4 5 (el 18347563667761348684) (bm 7436422714)) (bm 7455612794)) (bm 7451025085)))) (br 3 4 (br 4 5 (br 0 5 (br 1 5 (el 18347581268457250913) (br 2 5 (el 18347581259943198764) (br 3 5 (el 18347563667748380699) (bm 243687369879165)))) (br 1 5 (br 2 5 (el 18347581251352879201) (br 3 5 (el 18347563658302969953) (bm 993639248889182397))) (br 2 5 (br 3 5 (el 18347546066712354843) (bm 242587843563261)) (bm 993639248889182397)))) (br 1 5 (br 3 5 (br 0 5 (el 18347598860710565985) (br 2 5 (el 18347598843539085409) (bm 7949105743862243133))) (bm 7436422714)) (bm 7436422714))) (bm 929533754))) (br 2 4 (br 3 4 (br 2 5 (br 3 5 (br 0 5 (el 18347598852120434714) (br 1 5 (el 18347598843534694426) (br 4 5 (el 18347546066049619994) (bm 7949105743862243133)))) (br 4 5 (br 0 5 (el 18347581259934392346) (br 1 5 (el 18347581251348652058) (bm 7949106294692060925))) (bm 7419645499))) (br 3 5 (br 4 5 (br 0 5 (el 18347563667748347931) (br 1 5 (el 18347563659162607643) (bm 7951358094639996605))) (bm 7436422714)) (bm 7453195834))) (bm 927436540)) (bm 929533628))))) (br 2 4 (br 2 5 (br 1 2 (br 0 5 (br 1 3 (el 18347598731794338177) (br 1 4 (el 18347598869233291585) (br 1 5 (el 18347598869233291457) (br 3 5 (el 18347598852133437514) (br 4 5 (el 18347581259951587402) (bm 244237125660285)))))) (br 3 4 (br 1 3 (el 18347598706573988225) (br 1 4 (el 18347598844080050497) (br 1 5 (br 3 5 (el 18347598843543179457) (br 4 5 (el 18347581251227111617) (bm 993921342073009853))) (br 3 5 (br 4 5 (el 18347546066049816650) (bm 242656311316285)) (bm 993921342073009853))))) (br 3 5 (br 1 3 (el 18347598706037117313) (br 1 5 (el 18347598843543179457) (br 1 4 (br 4 5 (el 18347581113184178497) (bm 993921891829085884)) (bm 993921891829085884)))) (br 4 5 (br 1 4 (el 18347581113184178497) (br 1 5 (el 18347581251227111617) (bm 30381943126652))) (bm 3797742890813))))) (br 1 4 (br 1 5 (br 3 4 (el 18347598844080148577) (br 0 5 (el 18347598869300498529) (br 3 5 (el 18347598843543277665) (br 4 5 (el 18347581250623230049) (bm 242587709312829))))) (br 4 5 (br 0 5 (el 18347581259943198796) (br 1 3 (br 3 5 (el 18347563521665032481) (bm 7451090682)) (bm 7451090619))) (br 1 3 (br 3 4 (br 3 5 (el 18347598844075792673) (bm 7460065018)) (bm 7460065018)) (bm 7460064955)))) (br 1 3 (br 3 4 (br 3 5 (br 0 5 (el 18347598852129243179) (br 1 5 (el 18347598843538921633) (br 4 5 (el 18347546066049814571) (bm 242587709312829)))) (br 1 5 (br 4 5 (el 18347581251353174177) (bm 7453195834)) (bm 7453195834))) (bm 931630842)) (bm 931630779)))) (br 4 5 (br 1 4 (br 0 5 (br 1 2 (el 18347581131018363201) (br 1 3 (el 18347581268457316641) (br 1 5 (el 18347581268457316449) (br 3 5 (el 18347563667761348684) (bm 244237125660285))))) (br 3 5 (br 1 3 (el 18347563521665032481) (br 1 5 (el 18347563659171094625) (bm 7451090619))) (bm 931376893))) (br 1 5 (br 1 2 (br 0 5 (el 18347581268524720321) (br 3 5 (el 18347563659171389633) (bm 7407382269))) (br 1 3 (br 3 4 (br 0 5 (el 18347581268524654753) (br 3 5 (el 18347563658906785953) (bm 7949106294692060925))) (bm 7453191739)) (bm 7453191739))) (br 1 3 (br 3 4 (br 3 5 (br 1 2 (el 18347598706569730433) (br 0 5 (el 18347563667765542955) (bm 993639798511040189))) (bm 7474745019)) (bm 7453191739)) (bm 7453191739)))) (br 3 4 (br 3 5 (br 1 3 (br 1 2 (el 18347598706569730433) (br 1 4 (el 18347598844075792673) (br 0 5 (br 1 5 (el 18347598860643293345) (bm 244237125660285)) (bm 993639798511040189)))) (br 1 4 (br 1 5 (el 18347598844075956321) (bm 7460064955)) (bm 7453191739))) (bm 934514363)) (bm 934514363)))) (br 3 4 (br 3 5 (br 1 3 (br 0 5 (br 1 2 (el 18347598723204340097) (br 1 4 (el 18347598860643293473) (br 1 5 (el 18347598860643293345) (br 2 5 (el 18347598852129243179) (br 4 5 (el 18347563667765542955) (bm 7985147186473184893)))))) (br 2 5 (br 1 2 (el 18347598706032859521) (br 1 5 (el 18347598843538921633) (br 1 4 (br 4 5 (el 18347563520863852833) (bm 993640348267116220)) (bm 993640348267116220)))) (br 4 5 (br 1 4 (el 18347563520863852833) (br 1 5 (el 18347563658906785953) (bm 30381943126652))) (bm 3797742890813)))) (br 1 4 (br 1 5 (br 0 5 (el 18347598860710565985) (br 2 5 (el 18347598843539085409) (br 4 5 (el 18347563658302969953) (bm 242656311316285)))) (br 4 5 (br 0 5 (el 18347563667761348652) (br 1 2 (br 2 5 (el 18347581113846817089) (bm 30382077606523)) (bm 993640348401334459))) (bm 7460064955))) (bm 931630779))) (br 4 5 (br 1 4 (br 0 5 (br 1 2 (el 18347581131018297665) (br 1 3 (el 18347581268457251105) (br 1 5 (el 18347581268457250913) (br 2 5 (el 18347581259943198764) (bm 7985147186473184893))))) (br 2 5 (br 1 2 (el 18347581113846817089) (br 1 5 (el 18347581251352879201) (bm 993640348401334459))) (bm 3797759700733))) (br 1 3 (br 1 5 (br 0 5 (el 18347581268524654753) (br 2 5 (el 18347581251353174177) (bm 242725047570173))) (bm 7453195834)) (bm 7453195834))) (bm 934514363))) (bm 115584764))))
noncomputable def t62_5 : Tr := (br 0 2 (br 1 3 t62_0 (br 1 4 (br 1 2 (br 0 4 (br 2 3 (el 18347598595001813312) (br 2 4 (el 18347598869611284800) (br 3 4 (el 18347598861260425536) (br 2 5 (el 18347598869074413888) (br 4 5 (el 18347581061745740096) (br 1 5 (br 3 5 (br 0 3 (el 18347458054481643776) (br 0 5 (el 18347598860723030080) (bm 7467802300))) (bm 929541949)) (bm 933736251))))))) (br 0 3 (br 2 3 (el 18347598526282336640) (br 2 4 (el 18347598800891808128) (br 3 4 (el 18347598792507394432) (br 2 5 (el 18347598800354937216) (br 0 5 (br 4 5 (el 18347581131035641984) (br 1 5 (br 3 5 (el 18347598791969998976) (bm 7436373693)) (bm 7451090619))) (br 1 5 (br 3 5 (el 18347598791969999232) (bm 7436406460)) (bm 15595206253803770))))))) (br 0 5 (br 2 3 (el 18347598595001813184) (br 2 4 (el 18347598869611284672) (br 2 5 (el 18347598869074413760) (br 4 5 (el 18347581131035642048) (br 1 5 (br 3 5 (el 18347598860723030208) (bm 7451025085)) (bm 7451090619)))))) (br 3 4 (br 2 3 (el 18347598569068564801) (br 2 4 (el 18347598844080558401) (br 2 5 (br 4 5 (el 18347581113855512897) (br 1 5 (br 3 5 (el 18347598843543425089) (bm 7455219261)) (bm 7455284795))) (br 1 5 (br 3 5 (br 4 5 (el 18347563658302969921) (bm 7422316349)) (bm 7455219261)) (bm 7455284795))))) (br 4 5 (br 2 4 (el 18347580838306779457) (br 2 5 (el 18347581113855512897) (br 2 3 (br 1 5 (br 3 5 (el 18347598568531693633) (bm 7436414524)) (bm 15595223450482936)) (bm 7471996476)))) (br 1 5 (br 3 5 (br 2 3 (el 18347598568531693633) (br 2 5 (el 18347598843543425089) (bm 7471996476))) (bm 929533757)) (bm 933728059))))))) (br 1 5 (br 2 4 (br 0 3 (el 18347598801092675968) (br 0 4 (el 18347598869812152640) (br 3 4 (el 18347598844080656481) (br 0 5 (el 18347598869812152512) (br 4 5 (el 18347580838306877537) (br 2 5 (br 3 5 (el 18347598843543261281) (bm 7436996413)) (bm 7436414524))))))) (br 2 5 (br 0 3 (el 18347598800555805056) (br 0 4 (el 18347598869275281728) (br 0 5 (el 18347598869275281600) (br 3 5 (el 18347598843543523425) (br 4 5 (el 18347581251361673313) (bm 7436381757)))))) (br 3 4 (br 0 3 (el 18347598792506935680) (br 0 4 (el 18347598861259966784) (br 0 5 (br 3 5 (el 18347598860723095744) (br 4 5 (el 18347581268474136768) (bm 15560021612755133))) (br 3 5 (br 4 5 (el 18347563658302969953) (bm 7436996413)) (bm 7436381757))))) (br 3 5 (br 0 3 (el 18347598791970064768) (br 0 5 (el 18347598860723095744) (br 0 4 (br 4 5 (el 18347581199184234816) (bm 15560090332232380)) (bm 7436414524)))) (br 4 5 (br 0 4 (el 18347581199184234816) (br 0 5 (el 18347581268474136768) (bm 7436406460))) (bm 929550202)))))) (br 2 4 (br 2 3 (br 0 3 (el 18347598801088844160) (br 0 4 (el 18347598869808320832) (br 3 4 (el 18347598844080654610) (br 0 5 (el 18347598869808320704) (br 4 5 (el 18347580838306875666) (bm 7470550843)))))) (br 2 5 (br 0 3 (el 18347598801088450944) (br 0 4 (el 18347598869807927616) (br 3 4 (el 18347598844080654418) (br 0 5 (el 18347598869807927488) (br 4 5 (el 18347580838306875474) (bm 244795607723580)))))) (br 3 5 (br 0 3 (br 3 4 (el 18345627368149850496) (br 4 5 (br 0 4 (el 18347422861519626496) (br 0 5 (el 18347563667761291392) (bm 7467843194))) (bm 934518459))) (br 0 5 (br 4 5 (el 18347563667761291456) (br 0 4 (br 3 4 (el 18343234899600988224) (bm 7434325626)) (bm 7474486971))) (bm 933469883))) (bm 115846909)))) (br 3 4 (br 2 3 (br 0 3 (el 18347598792498911616) (br 0 4 (el 18347598861252090176) (br 0 5 (br 2 5 (br 3 5 (el 18347598851999043776) (br 4 5 (el 18347581259951411392) (bm 15560021612755133))) (br 3 5 (br 4 5 (el 18347563667765516480) (bm 7451025085)) (bm 7434284669))) (br 2 5 (br 3 5 (br 4 5 (el 18347546066720708754) (bm 7436381757)) (bm 7453773565)) (bm 7436381757))))) (br 3 5 (br 0 3 (el 18347598792498452864) (br 0 5 (br 0 4 (el 18347598861251631168) (br 4 5 (el 18347563667761356992) (bm 7451090619))) (br 0 4 (br 2 5 (br 4 5 (el 18347581191189766464) (bm 7455280763)) (bm 7455280763)) (bm 7469936187)))) (br 2 5 (br 4 5 (br 0 4 (el 18347581191189766464) (br 0 5 (el 18347581259943207104) (bm 7467839099))) (bm 934518459)) (bm 931897085)))) (br 4 5 (br 2 5 (br 0 4 (el 18347581191189897536) (br 0 5 (el 18347581259943207104) (br 0 3 (br 2 3 (br 3 5 (el 18347598782977577344) (bm 15560021881714875)) (bm 7451090619)) (bm 7469936187)))) (br 3 5 (br 0 5 (el 18347563667761356992) (br 0 3 (br 0 4 (el 18347422861519692032) (bm 15595206253803770)) (bm 15590825387194617))) (bm 932159165))) (br 2 3 (br 2 5 (br 3 5 (br 0 3 (el 18347598782977577344) (br 0 5 (el 18347598851999043776) (bm 7455280763))) (bm 931897085)) (bm 932159165)) (bm 934518459))))))) t62_1)) (br 0 3 (br 0 4 (br 1 2 (br 2 3 (br 1 3 (el 18347597839255472416) (br 1 4 (el 18347598526450108704) (br 3 4 (el 18347598508637114656) (br 1 5 (el 18347598526449846560) (br 3 5 (el 18347598508100243744) (br 4 5 (br 2 4 (el 18346877228207919392) (br 0 5 (br 2 5 (el 18347581259951460384) (bm 7470292732)) (bm 7467839099))) (bm 115851069))))))) (br 2 4 (br 1 3 (el 18347598732340234528) (br 1 4 (el 18347598869779056928) (br 3 4 (el 18347598852670574880) (br 1 5 (el 18347598869778794784) (br 4 5 (el 18347580915649827104) (br 0 5 (br 2 5 (br 3 5 (el 18347598852133179424) (bm 7436738365)) (bm 7470292795)) (bm 7467806332))))))) (br 3 5 (br 1 3 (el 18347598722915633440) (br 1 5 (el 18347598860689738016) (br 1 4 (br 3 4 (el 18347598861226871072) (br 4 5 (el 18347581130465216800) (br 0 5 (br 2 5 (el 18347598869242185760) (bm 7417536315)) (bm 15555563705661116)))) (br 3 4 (br 4 5 (el 18347563598206834976) (br 0 5 (br 2 5 (el 18347598852133441568) (bm 7417470781)) (bm 15555563705661116))) (br 0 5 (br 2 5 (el 18347598852133441568) (bm 7417536252)) (bm 7417536252)))))) (br 4 5 (br 1 4 (el 18347581130465216800) (br 1 5 (el 18347581268507887904) (br 1 3 (br 3 4 (el 18347598723452504352) (br 0 5 (br 2 5 (el 18347598731803363360) (bm 7417536252)) (bm 15555632425138363))) (br 0 5 (br 2 5 (el 18347581259951591456) (bm 7417503485)) (bm 15555632425138363))))) (br 3 4 (br 1 3 (el 18347598723452504352) (br 1 4 (el 18347598861226871072) (br 0 5 (br 1 5 (br 2 5 (el 18347598869241923616) (bm 7417503611)) (bm 7453515643)) (bm 7453183738)))) (br 0 5 (br 2 5 (br 1 3 (el 18347598731803363360) (br 1 4 (el 18347598869242185760) (br 1 5 (el 18347598869241923616) (bm 243687353106045)))) (bm 927186749)) (bm 933478202))))))) (br 1 3 (br 1 4 (br 2 3 (el 18347597839322384672) (br 2 4 (el 18347598869846100256) (br 3 4 (el 18347598860891261216) (br 3 5 (el 18347598860354390304) (br 4 5 (el 18347581267904104736) (br 0 5 (br 1 5 (br 2 5 (el 18347598869308704800) (bm 7403192125)) (bm 7469862652)) (bm 7467769596))))))) (br 1 5 (br 2 3 (el 18347597839322122528) (br 3 4 (el 18347598860890999072) (br 3 5 (el 18347598860354128160) (br 4 5 (el 18347581268507822368) (br 0 5 (br 2 5 (el 18347598869308966944) (bm 7453085437)) (bm 7453183738)))))) (br 2 4 (br 2 3 (el 18347597839318241568) (br 3 4 (el 18347598852666235168) (br 3 5 (br 4 5 (el 18347563599012370720) (br 0 5 (br 2 5 (el 18347598852133212192) (bm 7417511549)) (bm 7457377914))) (br 0 5 (br 2 5 (br 4 5 (el 18347581259246719008) (bm 7436738365)) (bm 7417511549)) (bm 7457377914))))) (br 4 5 (br 3 4 (el 18347563048451512608) (br 3 5 (el 18347563599012370720) (br 2 3 (br 0 5 (br 2 5 (el 18347597839317979168) (bm 7417544316)) (bm 7457377914)) (bm 7417544316)))) (br 0 5 (br 2 5 (br 2 3 (el 18347597839317979168) (br 3 5 (el 18347598852129101856) (bm 7417544316))) (bm 927178557)) (bm 933470010)))))) (br 3 5 (br 3 4 (br 1 4 (el 18347598861217929504) (br 2 4 (el 18347598852665743648) (br 1 5 (el 18347598860681058592) (br 4 5 (el 18347563598206834976) (br 0 5 (br 2 5 (el 18347598852128872480) (bm 7436308285)) (bm 7436406586)))))) (br 2 3 (br 2 4 (el 18347598851697398048) (br 1 5 (el 18347598860681255200) (br 4 5 (el 18347563599012337952) (br 0 5 (br 2 5 (el 18347598851697135648) (bm 7417511549)) (bm 7457377914))))) (br 1 4 (br 1 5 (el 18347598860689541408) (br 4 5 (el 18347563599008047392) (br 2 4 (br 0 5 (br 2 5 (el 18347598869841563680) (bm 7417548411)) (bm 7457377914)) (bm 7417548411)))) (br 2 4 (br 4 5 (el 18347563599008014624) (br 0 5 (br 2 5 (el 18347598852133212192) (bm 7417548411)) (bm 7459806970))) (bm 927178492))))) (br 2 3 (br 3 4 (br 1 4 (el 18347598861218388256) (br 2 4 (el 18347598852234268960) (br 4 5 (el 18347563598207293728) (br 0 5 (br 2 5 (el 18347598852234006560) (bm 7417544316)) (bm 7436406586))))) (br 2 4 (br 1 4 (el 18347598869841957152) (br 4 5 (el 18347581259247112480) (br 0 5 (br 1 5 (br 2 5 (el 18347598869304561696) (bm 7470292732)) (bm 7403192125)) (bm 7467769596)))) (br 0 5 (br 2 5 (br 1 5 (el 18347598869304823840) (br 4 5 (el 18347581259951493152) (bm 7453515517))) (br 1 4 (br 1 5 (br 4 5 (el 18347581267903711264) (bm 7436308285)) (bm 7417511549)) (bm 7417544316))) (br 1 4 (br 1 5 (br 4 5 (el 18347581267903711520) (bm 7436406586)) (bm 7457377914)) (bm 7443029818))))) (br 1 5 (br 1 4 (br 2 4 (el 18347598869845707040) (br 3 4 (el 18347598861226412320) (br 4 5 (el 18347581267903711520) (br 0 5 (br 2 5 (el 18347598869308835872) (bm 242587707219773)) (bm 998144033810576508))))) (br 4 5 (br 2 4 (el 18347581268495081760) (br 3 4 (el 18347581268495016224) (bm 7417544316))) (br 2 4 (br 0 5 (br 2 5 (el 18347598869304692768) (bm 7417548411)) (bm 7453183738)) (bm 7417548411)))) (br 0 5 (br 2 5 (br 2 4 (br 1 4 (el 18347598869841563680) (br 3 4 (el 18347598852670083104) (br 4 5 (el 18347581259246719008) (bm 242587707219773)))) (br 4 5 (br 1 4 (el 18347581259942928416) (br 3 4 (el 18347581259942830112) (bm 30459537423100))) (bm 7417548411))) (bm 927178493)) (bm 933469946))))))) t62_2) (br 0 4 t62_3 t62_4)))
noncomputable def t62_6 : Tr := (br 3 4 (br 2 5 (br 0 2 (br 0 3 (el 18347545516965402770) (br 1 3 (el 18347546066721200274) (br 0 5 (el 18347581259934720146) (br 1 5 (el 18347581251348979858) (br 3 5 (el 18347546066720708754) (bm 115580669)))))) (br 1 2 (br 0 3 (el 18347545516965402762) (br 1 3 (el 18347546066721200266) (br 0 5 (el 18347581259934720138) (br 1 5 (el 18347581251348979850) (br 3 5 (el 18347546066720708746) (bm 7453515517)))))) (br 0 4 (br 0 3 (el 18347545516956557587) (br 1 3 (el 18347546066712371467) (br 0 5 (el 18347581259934715956) (br 1 5 (el 18347581251348975668) (br 3 5 (el 18347546066712371227) (bm 244237110906621)))))) (br 1 4 (br 0 3 (el 18347545516956541203) (br 1 3 (el 18347546066712355083) (br 0 5 (el 18347581259934715948) (br 1 5 (el 18347581251348975660) (br 3 5 (el 18347546066712354843) (bm 7964880438259949309)))))) (bm 115580604))))) (br 0 4 (br 0 2 (br 0 3 (el 18347563666926770448) (br 1 3 (el 18347563666926911755) (br 0 5 (el 18347563666926917712) (br 3 5 (el 18347563666926911515) (br 1 2 (br 1 4 (br 1 5 (el 18346049383118323785) (bm 7475007099)) (bm 7475007099)) (bm 7475007099)))))) (br 1 5 (br 1 3 (el 18347563658894221579) (br 3 5 (el 18347563659162656795) (br 1 2 (br 1 4 (el 18347598861247895625) (br 0 3 (br 0 5 (el 18347563666926770224) (bm 7455292985)) (bm 7455292985))) (br 0 3 (br 0 5 (el 18347563666926770224) (bm 7455292985)) (bm 7455292985))))) (br 0 5 (br 0 3 (el 18347563666926770224) (br 3 5 (el 18347563666926452763) (br 1 2 (br 1 3 (br 1 4 (el 18347598861247731977) (bm 7455292985)) (bm 7475007099)) (bm 7455292985)))) (br 1 2 (br 1 4 (br 0 3 (el 18347598861247891731) (br 1 3 (el 18347598861247731977) (br 3 5 (el 18347598861247891483) (bm 244237280906875)))) (bm 931892861)) (bm 931892861))))) (br 1 4 (br 1 2 (br 0 3 (el 18347563658303424787) (br 1 3 (el 18347563658303265033) (br 1 5 (el 18347563658303428681) (br 3 5 (el 18347563658303424539) (bm 7475007099))))) (br 0 5 (br 0 3 (el 18347563667479945491) (br 3 5 (el 18347563667748380699) (br 1 3 (br 1 5 (el 18347563658303264809) (bm 7455292985)) (bm 7455292985)))) (br 1 5 (br 1 3 (el 18347563658303264809) (br 3 5 (el 18347563658302965787) (bm 7455292985))) (bm 931892861)))) (br 0 2 (br 0 5 (br 0 3 (el 18347563667497195664) (br 3 5 (el 18347563667765510171) (br 1 2 (br 1 3 (br 1 5 (el 18347598595001598089) (bm 7455292985)) (bm 7455292985)) (bm 7443549820)))) (br 1 2 (br 1 5 (br 1 3 (el 18347598568733020297) (br 3 5 (el 18347598568522570114) (bm 7455292985))) (bm 933990012)) (bm 933990012))) (br 1 2 (br 1 5 (br 1 3 (el 18347563658907244681) (br 3 5 (el 18347563659175577627) (bm 7443549820))) (bm 933990012)) (bm 933990012)))))) (br 2 5 (br 0 2 (br 0 4 (br 0 3 (el 18347581259917857040) (br 0 5 (el 18347581259917856848) (br 1 5 (el 18347581251349094546) (br 3 5 (el 18347546066985394322) (br 1 2 (br 1 3 (br 1 4 (el 18347598593928118537) (bm 7441452669)) (bm 7441452669)) (bm 7441452669)))))) (br 1 3 (br 1 5 (el 18347581251361556626) (br 3 5 (el 18347546066989373586) (br 1 2 (br 1 4 (el 18347581251294335241) (br 0 3 (br 0 5 (el 18347597838014007440) (bm 7474130489)) (bm 7474130489))) (br 0 3 (br 0 5 (el 18347597839317897360) (bm 7474130489)) (bm 7474130489))))) (br 0 3 (br 0 5 (el 18347581259951411344) (br 3 5 (el 18347546066989389970) (br 1 2 (br 1 4 (br 1 5 (el 18347581251294335049) (bm 7441452669)) (bm 7474130489)) (bm 7474130489)))) (br 1 2 (br 1 4 (br 0 5 (el 18347581259934818434) (br 1 5 (el 18347581251294335049) (br 3 5 (el 18347546066985377922) (bm 243274939731581)))) (bm 931892859)) (bm 931892859))))) (br 1 2 (br 1 4 (br 1 3 (el 18347581251294351625) (br 0 5 (el 18347581259934818442) (br 1 5 (el 18347581251294351433) (br 3 5 (el 18347546066985377930) (bm 7441452669))))) (br 0 3 (br 0 5 (el 18347581259951489162) (br 3 5 (el 18347546066989389962) (br 1 3 (br 1 5 (el 18347597839313686665) (bm 7474130489)) (bm 7474130489)))) (br 1 3 (br 1 5 (el 18347581251361460361) (br 3 5 (el 18347546066989373578) (bm 7474130489))) (bm 931892859)))) (br 0 3 (br 0 4 (br 0 5 (el 18347581259951493168) (br 3 5 (el 18347546066981200019) (br 1 3 (br 1 4 (br 1 5 (el 18347597839322431529) (bm 7475269242)) (bm 7475269242)) (bm 7475269242)))) (br 1 3 (br 1 4 (br 1 5 (el 18347597839313784873) (br 3 5 (el 18347546066981183619) (bm 7475269242))) (bm 932155002)) (bm 932155002))) (br 1 3 (br 1 4 (br 1 5 (el 18347581251361558569) (br 3 5 (el 18347546066981183627) (bm 7475269242))) (bm 932155002)) (bm 932155002))))) (br 3 5 (br 0 3 (br 0 4 (br 0 2 (el 18347563667731814672) (br 0 5 (el 18347563667731814448) (br 1 5 (el 18347563659163050131) (br 1 2 (br 1 3 (br 1 4 (el 18347595640299176201) (bm 7441452669)) (bm 7441452669)) (bm 7441452669))))) (br 1 2 (br 1 5 (el 18347563659175577747) (br 0 2 (br 0 5 (el 18347598576819638416) (br 1 3 (br 1 4 (el 18347595640064491785) (bm 7472037433)) (bm 7472037433))) (br 1 3 (br 1 4 (el 18347563659108292873) (bm 7472037433)) (bm 7472037433)))) (br 0 5 (br 0 2 (el 18347563667765368976) (br 1 3 (br 1 4 (el 18347563667748774019) (bm 7472037433)) (bm 7472037433))) (br 1 3 (br 1 4 (br 1 5 (el 18347563659108292649) (bm 7441452669)) (bm 7472037433)) (bm 7472037433))))) (br 1 3 (br 1 4 (br 1 2 (el 18347563659108309257) (br 0 5 (el 18347563667748774027) (br 1 5 (el 18347563659108309033) (bm 7441452669)))) (br 0 2 (br 0 5 (el 18347563667765510283) (br 1 2 (br 1 5 (el 18347598568196149385) (bm 7472037433)) (bm 7472037433))) (br 1 2 (br 1 5 (el 18347563659175417993) (bm 7472037433)) (bm 7472037433)))) (br 0 2 (br 0 4 (br 0 5 (el 18347563667765516368) (br 1 2 (br 1 4 (br 1 5 (el 18347598595001860169) (bm 7472037433)) (bm 7475007099)) (bm 7472037433))) (br 1 2 (br 1 4 (br 1 5 (el 18347598568531693641) (bm 7475007099)) (bm 7475007099)) (bm 7475007099))) (br 1 2 (br 1 4 (br 1 5 (el 18347563659175581769) (bm 7472037433)) (bm 7475007099)) (bm 7472037433))))) (br 0 2 (br 1 2 (br 0 3 (br 1 3 (br 0 4 (el 18347597839087749392) (br 1 4 (el 18347597839087747337) (br 0 5 (el 18347597839087749264) (br 1 5 (el 18347597839087747209) (bm 7990211125955673657))))) (br 0 4 (br 1 4 (el 18347598595001862416) (br 0 5 (br 1 5 (el 18347598595001600016) (bm 7400763132)) (bm 7455280889))) (br 0 5 (br 1 5 (el 18347598595001600144) (bm 7472025337)) (bm 7436414524)))) (br 0 4 (br 1 4 (br 1 3 (el 18347598595001860361) (br 0 5 (el 18347598595001862224) (br 1 5 (el 18347598595001860169) (bm 7990211125955673657)))) (br 0 5 (br 1 5 (el 18347598595001600080) (bm 7434317625)) (bm 7472029243))) (br 0 5 (br 1 5 (br 1 3 (el 18347598595001598089) (br 1 4 (el 18347598595001598025) (bm 7990211125955673657))) (bm 7455284795)) (bm 7400763132)))) (br 0 3 (br 1 3 (br 0 4 (br 1 4 (el 18347597839322433808) (br 0 5 (br 1 5 (el 18347597839322171408) (bm 7400767164)) (bm 7457377977))) (br 0 5 (br 1 5 (el 18347597839322171536) (bm 7474122425)) (bm 7419641404))) (br 0 4 (br 1 4 (br 0 5 (br 1 5 (el 18347581267903760400) (bm 7400734397)) (bm 7457377977)) (bm 7400767164)) (bm 7474122425))) (br 0 4 (br 1 4 (br 0 5 (br 1 5 (el 18347581267903760464) (bm 7434284921)) (bm 7419608637)) (bm 7434317625)) (bm 7419641404)))) (br 0 3 (br 1 3 (br 0 4 (br 1 4 (br 1 2 (el 18347597839322431753) (br 0 5 (el 18347597839322433584) (br 1 5 (el 18347597839322431529) (bm 7990211125955673657)))) (br 0 5 (br 1 5 (el 18347597839322171440) (bm 7417544505)) (bm 7474126394))) (br 0 5 (br 1 5 (br 1 2 (el 18347597839322169481) (br 1 4 (el 18347597839322169385) (bm 7990211125955673657))) (bm 7457381946)) (bm 7400767164))) (br 0 4 (br 1 4 (br 0 5 (br 1 5 (el 18347581267903760432) (bm 7417511801)) (bm 7436381757)) (bm 7417544505)) (bm 7436414524))) (br 0 4 (br 1 4 (br 0 5 (br 1 5 (br 1 2 (el 18347581267903758409) (br 1 3 (el 18347581267903758377) (bm 7990211125955673657))) (bm 7457381946)) (bm 7400734397)) (bm 7474126394)) (bm 7400767164)))))))
noncomputable def t62_7 : Tr := (br 1 4 (br 0 2 (br 0 3 (br 1 2 (el 18347598595001862416) (br 1 3 (el 18347597839322433808) (br 2 4 (el 18347598869841875216) (br 3 4 (el 18347598861251942672) (br 2 5 (br 3 5 (el 18347598851697053968) (br 0 5 (br 1 5 (el 18347598869308885008) (bm 7400730365)) (bm 7455280889))) (br 0 5 (br 1 5 (br 3 5 (el 18347598860723144720) (bm 7434653562)) (bm 7400734397)) (bm 7457377977))))))) (br 0 5 (br 1 2 (el 18347598595001862224) (br 2 4 (el 18347598869841875024) (br 3 4 (el 18347598861252089936) (br 1 5 (br 2 5 (el 18347598869308885072) (br 3 5 (el 18347598860723144784) (bm 7434215229))) (br 2 5 (br 3 5 (el 18347598851999043664) (bm 7434284921)) (bm 7455616889)))))) (br 1 3 (br 1 2 (el 18347598595001860361) (br 2 4 (el 18347598869837760786) (br 3 4 (el 18347598861252083979) (br 1 5 (br 2 5 (br 3 5 (el 18347598843073646633) (bm 7453773565)) (bm 7419608637)) (bm 7441452669))))) (br 1 5 (br 1 2 (el 18347598595001860169) (br 2 4 (br 2 5 (el 18347598869837367314) (br 3 4 (br 3 5 (el 18343234890872445202) (bm 7460327035)) (bm 7457386041))) (br 3 4 (br 3 5 (el 18347598861252083739) (bm 7475007099)) (bm 7475007099)))) (br 3 4 (br 3 5 (el 18347598861252083739) (bm 934514299)) (bm 934514299)))))) (br 2 4 (br 2 5 (br 0 3 (el 18347598869841952794) (br 1 3 (el 18347598869837760538) (br 0 5 (el 18347598869841559578) (br 1 5 (el 18347598869837367322) (br 3 4 (br 3 5 (el 18343234891006662682) (bm 7417548411)) (bm 7417548411)))))) (br 1 2 (br 0 3 (el 18347598869841953034) (br 1 3 (el 18347598869837664521) (br 1 5 (el 18347598869837664329) (br 3 4 (br 3 5 (el 18343234891006662922) (bm 7460327035)) (bm 7457386041))))) (br 0 5 (br 0 3 (el 18347598869841956912) (br 1 3 (br 1 5 (el 18347598869845753897) (br 3 4 (br 3 5 (el 18343234899600982027) (bm 7460589178)) (bm 7475269242))) (br 3 4 (br 3 5 (el 18343234899600982043) (bm 7460589178)) (bm 7475269242)))) (br 1 5 (br 1 3 (el 18347598869837762601) (br 3 4 (br 3 5 (el 18343234899596789787) (bm 7460589178)) (bm 7475269242))) (bm 934514298))))) (br 3 4 (br 1 2 (br 0 3 (el 18347598861247891731) (br 1 3 (el 18347598861247731977) (br 1 5 (el 18347598861247895625) (br 3 5 (el 18347598861247891483) (bm 7475007099))))) (br 0 5 (br 0 3 (el 18347598861251942448) (br 3 5 (el 18347598861251624987) (br 1 3 (br 1 5 (el 18347598861260013609) (bm 7460589178)) (bm 7460589178)))) (br 1 5 (br 1 3 (el 18347598861247731753) (br 3 5 (el 18347598861247432731) (bm 7460589178))) (bm 934514298)))) (br 1 3 (br 0 3 (br 1 2 (el 18347597839322431753) (br 0 5 (el 18347597839322433584) (br 1 5 (el 18347597839322431529) (bm 7475269242)))) (br 1 5 (br 0 5 (br 2 5 (el 18347598869308882985) (br 3 5 (el 18347598860723142697) (bm 7434653562))) (br 2 5 (br 3 5 (el 18347598843073646633) (bm 7400730365)) (bm 7400734397))) (br 1 2 (br 2 5 (br 3 5 (el 18347598843073548553) (bm 7455284795)) (bm 7457381946)) (bm 7475269242)))) (br 0 5 (br 1 5 (br 1 2 (br 2 5 (el 18347598869308883017) (br 3 5 (el 18347598860723142729) (bm 7417470781))) (br 0 3 (br 2 5 (el 18347598869308885040) (br 3 5 (el 18347598860723144752) (bm 243618501431101))) (bm 7475269242))) (br 0 3 (br 2 5 (br 3 5 (el 18347598851697135664) (bm 7453523833)) (bm 7417511801)) (bm 7475007099))) (br 1 2 (br 1 5 (br 2 5 (br 3 5 (el 18347598843409092681) (bm 7436381757)) (bm 7455870653)) (bm 7441452669)) (bm 7475269242))))))) (br 0 5 (br 2 5 (br 3 5 (br 0 2 (el 18347598851999043664) (br 0 3 (el 18347598851697135664) (br 2 4 (el 18347598852133208090) (br 3 4 (el 18347598852129013787) (br 1 2 (br 1 3 (el 18347598852120664202) (bm 7475007099)) (bm 7475269242)))))) (br 1 5 (br 0 2 (el 18347598869304741968) (br 0 3 (el 18347598869304823856) (br 2 4 (el 18347598869304688666) (br 1 2 (br 1 3 (el 18347598869300531337) (bm 7455292985)) (bm 7460589178))))) (br 3 4 (br 0 2 (el 18347598852535914576) (br 0 3 (el 18347598852234006576) (br 2 4 (el 18347598852670079002) (bm 7455292985)))) (br 0 3 (br 1 3 (el 18347597839317979184) (bm 925089597)) (bm 929288057))))) (br 0 2 (br 1 2 (br 3 4 (el 18347598577658499152) (br 1 5 (el 18347598595001600080) (br 3 5 (el 18347598577121628240) (br 0 3 (br 1 3 (el 18347597839087749136) (bm 7400763132)) (bm 7434317625))))) (br 2 4 (br 3 4 (el 18347598852536176720) (br 3 5 (el 18347598851999305808) (br 0 3 (br 1 3 (el 18347597839318159376) (bm 7400763132)) (bm 7434317625)))) (br 1 5 (br 3 5 (el 18347598860714956880) (br 0 3 (br 1 3 (el 18347597839322171408) (bm 7400767164)) (bm 7472394041))) (bm 925085501)))) (br 0 3 (br 2 4 (br 1 3 (el 18347597839318241328) (br 3 4 (el 18347598852234268720) (br 3 5 (el 18347598851697397808) (bm 7470300985)))) (br 1 5 (br 1 3 (el 18347597839322171440) (br 3 5 (el 18347598860714809392) (bm 7417544505))) (bm 927190905))) (br 3 4 (br 3 5 (br 2 4 (el 18347598852665884699) (br 1 5 (el 18347598860714754075) (bm 7436750713))) (br 1 2 (br 1 3 (br 2 4 (el 18347598852657797386) (bm 7453195834)) (bm 7460327035)) (bm 7460589178))) (br 1 2 (br 1 3 (br 1 5 (br 3 5 (el 18347598860710598793) (bm 7453191739)) (bm 7457386041)) (bm 7460327035)) (bm 7475269242)))))) (br 0 2 (br 0 3 (br 1 2 (br 1 3 (el 18347597839087749392) (br 3 4 (el 18347598577356509456) (br 3 5 (el 18347598576819638544) (bm 933478201)))) (br 2 4 (br 1 3 (el 18347597839318159632) (br 3 4 (el 18347598852234187024) (br 3 5 (el 18347598851697316112) (bm 7467769596)))) (br 2 5 (br 1 3 (el 18347597839317897488) (br 3 4 (el 18347598852233924880) (br 3 5 (el 18347598851697053968) (bm 1000114418928088187)))) (bm 933474105)))) (br 3 4 (br 1 3 (br 1 2 (el 18347598577645672834) (br 2 4 (el 18347598852523579666) (br 2 5 (el 18347598852523579538) (bm 7472394041)))) (br 3 5 (br 1 2 (el 18347598577645181314) (br 2 4 (el 18347598852523088146) (br 2 5 (el 18347598852523088018) (bm 244718296211132)))) (bm 934514299))) (br 1 3 (br 1 5 (br 3 5 (br 1 2 (el 18347598568196149385) (br 2 5 (el 18347598843073644690) (bm 7457386041))) (bm 931630845)) (bm 932155005)) (bm 934514299)))) (br 2 4 (br 1 2 (br 0 3 (br 1 3 (el 18347597839318237450) (br 3 4 (el 18347598852234264842) (br 3 5 (el 18347598851697393930) (bm 7470300985)))) (br 3 4 (br 1 3 (el 18347598852657797386) (br 3 5 (el 18347598852657305866) (bm 7417548411))) (br 1 3 (br 1 5 (br 3 5 (el 18347598843073810569) (bm 7417503485)) (bm 7417511549)) (bm 7417548411)))) (br 2 5 (br 0 3 (br 1 3 (el 18347597839318237210) (br 3 4 (el 18347598852234264602) (br 3 5 (el 18347598851697393690) (bm 244718279401212)))) (br 3 4 (br 1 3 (el 18347598852657797146) (br 3 5 (el 18347598852657305626) (bm 1000114203876981563))) (br 1 3 (br 1 5 (br 3 5 (el 18347598843073644570) (bm 244168391462653)) (bm 997861854307481853)) (bm 1000114203876981563)))) (bm 934514298))) (br 1 2 (br 1 5 (br 2 5 (br 1 3 (br 0 3 (el 18347597839313686665) (br 3 4 (el 18347598843610419337) (br 3 5 (el 18347598843073548425) (bm 7964880438259490557)))) (br 3 5 (br 0 3 (el 18347598843400722570) (br 3 4 (el 18347598843400476810) (bm 8003165983297908347))) (bm 7455292985))) (bm 931630781)) (bm 931892861)) (bm 934514298))))))
noncomputable def t62_8 : Tr := (br 1 5 (br 1 2 (br 3 5 (br 0 2 (br 0 3 (el 18347598568522815874) (br 1 3 (el 18347598568196149385) (br 1 4 (el 18347598568531693641) (br 3 4 (el 18347598568522570114) (bm 934514299))))) (br 2 4 (br 0 3 (el 18347598843400722698) (br 1 3 (el 18347598843073810569) (br 1 4 (el 18347598843409354825) (br 3 4 (el 18347598843400476938) (bm 7417548411))))) (br 0 5 (br 0 3 (el 18347598860710758547) (br 1 3 (el 18347598860710598793) (br 1 4 (el 18347598860710762569) (br 3 4 (el 18347598860710758427) (bm 244924475575931))))) (br 2 5 (br 0 3 (el 18347598843400722570) (br 1 3 (el 18347598843073548425) (br 1 4 (el 18347598843409092681) (br 3 4 (el 18347598843400476810) (bm 8003165984237432443))))) (bm 925085501))))) (br 1 3 (br 0 3 (br 0 2 (el 18347597839087747209) (br 2 4 (el 18347597839313948809) (br 0 5 (el 18347597839322169481) (br 2 5 (el 18347597839313686665) (bm 7400767164))))) (br 3 4 (br 0 2 (el 18347598568733020297) (br 2 4 (el 18347598843610681481) (br 2 5 (el 18347598843610419337) (bm 7400767164)))) (br 0 5 (br 0 2 (el 18347598595001598089) (br 2 5 (el 18347598869300531337) (bm 7400763132))) (bm 925089597)))) (br 1 4 (br 3 4 (br 0 2 (el 18347598569068564553) (br 2 4 (el 18347598843946225737) (br 2 5 (el 18347598843945963593) (bm 7472647868)))) (br 0 5 (br 0 2 (el 18347598595001598025) (br 2 5 (el 18347598869300531273) (bm 7436414524))) (bm 929533757))) (br 0 3 (br 0 5 (br 0 2 (el 18347598595001600144) (br 2 5 (el 18347598869304819850) (bm 7443549820))) (bm 934252156)) (bm 934514299))))) (br 2 5 (br 1 3 (br 0 2 (br 0 3 (el 18347597839313782930) (br 3 4 (el 18347598843610515602) (br 0 5 (el 18347598869300627602) (br 3 5 (el 18347598843073644690) (bm 7417872189))))) (br 1 4 (br 0 3 (el 18347597839313784873) (br 3 4 (el 18347598843610517545) (br 0 5 (el 18347598869300629545) (br 3 5 (el 18347598843073646633) (bm 7417872189))))) (br 2 4 (br 0 3 (el 18347597839313782810) (br 3 4 (el 18347598843610515482) (br 0 5 (el 18347598869300627482) (br 3 5 (el 18347598843073644570) (bm 7964880438259949309))))) (bm 934514298)))) (br 2 4 (br 1 4 (br 3 4 (el 18347598844080146458) (br 0 5 (el 18347598869300496410) (br 3 5 (el 18347598843543275546) (bm 7436996413)))) (br 0 3 (br 0 5 (el 18347598869304819738) (br 3 5 (el 18347598843534940186) (bm 7419641404))) (br 3 4 (br 3 5 (el 18347598843534694426) (bm 7419645499)) (bm 7419645499)))) (br 0 2 (br 0 3 (br 0 5 (el 18347598869304742032) (br 3 5 (el 18347598843534940306) (bm 7455292985))) (br 3 4 (br 3 5 (el 18347598843534694546) (bm 7455292985)) (bm 7475007099))) (br 1 4 (br 3 4 (br 3 5 (el 18347598843539081243) (bm 7460589178)) (bm 7475269242)) (bm 7436422714))))) (br 1 4 (br 1 3 (br 2 4 (br 0 3 (el 18347597839314047017) (br 3 4 (el 18347598843610779689) (br 3 5 (el 18347598843073908777) (bm 7470550780)))) (br 0 5 (br 0 3 (el 18347597839322169385) (br 3 5 (el 18347598860710598697) (bm 7419641404))) (bm 927436605))) (br 3 4 (br 3 5 (br 2 4 (el 18347598844075952155) (br 0 5 (el 18347598860710561819) (bm 7436996413))) (br 0 2 (br 0 3 (br 2 4 (el 18347598844072073490) (bm 7451098809)) (bm 7460327035)) (bm 7460589178))) (br 0 2 (br 0 3 (br 0 5 (br 3 5 (el 18347598860714809488) (bm 7451094777)) (bm 7457386041)) (bm 7460327035)) (bm 7475269242)))) (br 0 2 (br 0 5 (br 3 5 (br 0 3 (el 18347598860714809488) (br 1 3 (el 18347598860714950795) (br 3 4 (el 18347598860714950683) (bm 8003447527950167611)))) (br 0 3 (br 1 3 (el 18347597839322171536) (br 2 4 (br 3 4 (el 18347598852234186896) (bm 1000431077840419515)) (bm 1000712552817130234))) (bm 7443549820))) (bm 933990012)) (bm 934514298))))) (br 1 4 (br 1 2 (br 1 3 (br 0 2 (br 0 3 (el 18347597839087747337) (br 3 4 (el 18347598568733020425) (br 3 5 (el 18347598568196149513) (bm 933727996)))) (br 2 4 (br 0 3 (el 18347597839313948937) (br 3 4 (el 18347598843610681609) (br 3 5 (el 18347598843073810697) (bm 7417536252)))) (br 2 5 (br 0 3 (el 18347597839313686793) (br 3 4 (el 18347598843610419465) (br 3 5 (el 18347598843073548553) (bm 1000114410035968635)))) (bm 933727932)))) (br 3 4 (br 0 3 (br 0 2 (el 18347598569059948930) (br 2 4 (el 18347598843937855754) (br 2 5 (el 18347598843937855626) (bm 7472647868)))) (br 3 5 (br 0 2 (el 18347598569059441026) (br 2 4 (el 18347598843937347850) (br 2 5 (el 18347598843937347722) (bm 244718298304188)))) (bm 934514299))) (br 0 3 (br 0 5 (br 3 5 (br 0 2 (el 18347598576819638416) (br 2 5 (el 18347598851697131658) (bm 7457386041))) (bm 931381113)) (bm 932155005)) (bm 934514299)))) (br 2 4 (br 0 2 (br 1 3 (br 0 3 (el 18347597839314045202) (br 3 4 (el 18347598843610777874) (br 3 5 (el 18347598843073906962) (bm 7470550780)))) (br 3 4 (br 0 3 (el 18347598844072073490) (br 3 5 (el 18347598844071565586) (bm 7419645499))) (br 0 3 (br 0 5 (br 3 5 (el 18347598851697315984) (bm 7450992381)) (bm 7419608637)) (bm 7419645499)))) (br 2 5 (br 1 3 (br 0 3 (el 18347597839314044954) (br 3 4 (el 18347598843610777626) (br 3 5 (el 18347598843073906714) (bm 244718281494268)))) (br 3 4 (br 0 3 (el 18347598844072073242) (br 3 5 (el 18347598844071565338) (bm 1000114203876981563))) (br 0 3 (br 0 5 (br 3 5 (el 18347598851697131546) (bm 244168389369597)) (bm 997861854307481853)) (bm 1000114203876981563)))) (bm 934514298))) (br 0 2 (br 0 5 (br 2 5 (br 0 3 (br 1 3 (el 18347597839317897360) (br 3 4 (el 18347598852233924752) (br 3 5 (el 18347598851697053840) (bm 7964880436380901117)))) (br 3 5 (br 1 3 (el 18347598851986446482) (br 3 4 (el 18347598851986217106) (bm 8003447527010872891))) (bm 7455292985))) (bm 931377017)) (bm 931892861)) (bm 934514298)))) (br 0 5 (br 0 2 (br 0 3 (br 1 2 (br 1 3 (el 18347597839087749264) (br 3 4 (el 18347598577356509328) (br 3 5 (el 18347598576819638416) (bm 3789169762045)))) (br 2 4 (br 1 3 (el 18347597839318159504) (br 3 4 (el 18347598852234186896) (br 3 5 (el 18347598851697315984) (bm 243068879900413)))) (br 2 5 (br 1 3 (el 18347597839317897360) (br 3 4 (el 18347598852233924752) (br 3 5 (el 18347598851697053840) (bm 7964880436380901117)))) (bm 3789169761981)))) (br 3 5 (br 1 3 (br 1 2 (el 18347598577108539778) (br 2 4 (el 18347598851986446610) (br 2 5 (el 18347598851986446482) (bm 243618650398397)))) (br 3 4 (br 1 2 (el 18347598577108310402) (br 2 4 (el 18347598851986217234) (br 2 5 (el 18347598851986217106) (bm 7982894836903681725)))) (bm 3816032226875))) (bm 934252156))) (br 2 5 (br 0 3 (br 1 2 (br 1 3 (el 18347597839317975178) (br 3 4 (el 18347598852234002570) (br 3 5 (el 18347598851697131658) (bm 243068877807357)))) (br 2 4 (br 1 3 (el 18347597839317975066) (br 3 4 (el 18347598852234002458) (br 3 5 (el 18347598851697131546) (bm 7964880438259949309)))) (bm 3816032226874))) (br 3 5 (br 1 2 (br 1 3 (el 18347598852120664202) (br 3 4 (el 18347598852120434826) (bm 30382094613307))) (br 2 4 (br 1 3 (el 18347598852120664090) (br 3 4 (el 18347598852120434714) (bm 32771742242170731002683))) (bm 30450814090042))) (bm 7417544316))) (bm 933990012))) (bm 115580733))))
noncomputable def t62_9 : Tr := (br 0 3 (br 1 3 (br 0 4 (br 2 4 (el 18347598663453034768) (br 3 4 (el 18347598654733076752) (br 2 5 (el 18347598662916163856) (br 3 5 (el 18347598654196205840) (br 4 5 (br 1 4 (el 18347158849280592144) (br 0 5 (br 1 5 (el 18347581268541360144) (bm 7468199676)) (bm 7467835067))) (bm 116113213)))))) (br 0 5 (br 2 4 (el 18347598663453034640) (br 3 4 (el 18347598654733076624) (br 2 5 (el 18347598662916163728) (br 3 5 (el 18347598654196205712) (br 1 5 (br 4 5 (el 18347581268541360272) (bm 7451422461)) (bm 7451090619)))))) (br 1 4 (br 2 4 (el 18347598663453032713) (br 3 4 (el 18347598654733074697) (br 2 5 (el 18347598662916161801) (br 3 5 (el 18347598654196203785) (bm 7468199676))))) (br 1 5 (br 2 4 (el 18347598663453032585) (br 3 4 (el 18347598654733074569) (br 2 5 (el 18347598662916161673) (br 3 5 (el 18347598654196203657) (bm 244718313021115))))) (br 4 5 (br 2 4 (br 3 4 (el 18345856391556307266) (br 2 5 (br 3 5 (el 18347546066989553730) (bm 7472909948)) (bm 7472037433))) (br 2 5 (br 3 5 (el 18347546066989553858) (bm 7455292985)) (bm 7472909948))) (bm 115580733)))))) (br 0 4 (br 1 4 (br 2 4 (el 18347598869611333904) (br 3 4 (el 18347598861260474640) (br 2 5 (el 18347598869074462992) (br 4 5 (el 18347581061745789200) (br 0 5 (br 1 5 (br 3 5 (el 18347598860723079184) (bm 7434645309)) (bm 7468199739)) (bm 7467802300)))))) (br 2 4 (br 3 4 (el 18347598852636938512) (br 4 5 (el 18347580984369221904) (br 0 5 (br 1 5 (el 18347598869611071504) (br 2 5 (br 3 5 (el 18347598852099543056) (bm 7400697661)) (bm 7400763195))) (br 2 5 (br 3 5 (el 18347598852099543312) (bm 7438503737)) (bm 7438503737))))) (br 2 5 (br 3 5 (el 18347598852099805456) (br 4 5 (el 18347581259917955344) (br 0 5 (br 1 5 (el 18347598869074200592) (bm 7400730491)) (bm 7455280889)))) (br 0 5 (br 1 5 (br 3 5 (el 18347598860723341328) (br 4 5 (el 18347581268541491216) (bm 7451422587))) (br 3 4 (br 3 5 (br 4 5 (el 18347563666926311440) (bm 7400697661)) (bm 7400730365)) (bm 7400763132))) (br 3 4 (br 3 5 (br 4 5 (el 18347563666926311696) (bm 7438503737)) (bm 7455280889)) (bm 7426260793)))))) (br 0 5 (br 1 5 (br 2 4 (el 18347598869611071632) (br 2 5 (el 18347598869074200720) (br 3 5 (el 18347598860723341456) (br 4 5 (el 18347581268541491344) (bm 7451025085))))) (br 2 4 (br 3 4 (el 18347598852636938384) (br 4 5 (el 18347580984939647120) (br 2 5 (br 3 5 (el 18347598852099543184) (bm 7438471033)) (bm 7451094777)))) (br 2 5 (br 3 5 (el 18347598852099805328) (br 4 5 (el 18347581259951509648) (bm 7438471033))) (br 3 4 (br 3 5 (br 4 5 (el 18347563667496736912) (bm 7438471033)) (bm 7424163705)) (bm 7472025337))))) (br 2 4 (br 3 4 (br 1 4 (el 18347598844072270146) (br 4 5 (el 18347545241416603970) (br 1 5 (br 2 5 (br 3 5 (el 18347598843534874690) (bm 7472909948)) (bm 7472909948)) (bm 7422316349)))) (br 1 5 (br 1 4 (br 4 5 (el 18347580975745732681) (br 2 5 (br 3 5 (el 18347598843543162953) (bm 7422316349)) (bm 7471996476))) (br 2 5 (br 3 5 (el 18347598843535136834) (bm 7472909948)) (bm 7472909948))) (br 2 5 (br 3 5 (br 4 5 (el 18347546066989586498) (bm 7456132733)) (bm 7456132733)) (bm 7472037433)))) (br 2 5 (br 3 5 (br 1 5 (el 18347598843535136962) (br 4 5 (el 18347546066989586626) (bm 7456132733))) (br 1 4 (br 1 5 (br 4 5 (el 18347581251294466121) (bm 7455219261)) (bm 7456132733)) (bm 7455292985))) (br 1 4 (br 3 4 (br 1 5 (br 3 5 (br 4 5 (el 18347563658302969929) (bm 7422316349)) (bm 7455219261)) (bm 7456132733)) (bm 7471996476)) (bm 7472909948))))))) (br 1 4 (br 1 5 (br 0 4 (br 2 4 (el 18347598869611331657) (br 3 4 (el 18347598861260472393) (br 2 5 (el 18347598869074460745) (br 4 5 (el 18347581061745786953) (br 0 5 (br 3 5 (el 18347598860723079248) (bm 7434645309)) (bm 7468199739)))))) (br 0 5 (br 2 4 (el 18347598869611069513) (br 2 5 (el 18347598869074198601) (br 3 5 (el 18347598860723339337) (br 4 5 (el 18347581268541489225) (bm 7451422587))))) (br 2 4 (br 3 4 (el 18347598844080558153) (br 4 5 (el 18347580975745732681) (br 2 5 (br 3 5 (el 18347598843543162953) (bm 7400697661)) (bm 7400763195)))) (br 2 5 (br 3 5 (el 18347598843543425097) (br 4 5 (el 18347581251294466121) (bm 7400730491))) (br 3 4 (br 3 5 (br 4 5 (el 18347563658302969929) (bm 7400697661)) (bm 7400730365)) (bm 7400763132)))))) (br 1 3 (br 0 4 (br 2 4 (el 18347598869611331849) (br 3 4 (el 18347598861260472585) (br 2 5 (el 18347598869074460937) (br 4 5 (el 18347581061745787145) (bm 7434313404))))) (br 2 4 (br 3 4 (el 18347598844013449481) (br 4 5 (el 18347580975745732873) (br 2 5 (br 3 5 (el 18347598843476054281) (bm 7438507580)) (bm 7438507580)))) (br 2 5 (br 3 5 (el 18347598843476316425) (br 4 5 (el 18347581251294466313) (bm 7455284795))) (br 3 4 (br 3 5 (br 4 5 (el 18347563658302806281) (bm 7438507580)) (bm 7455284795)) (bm 7426510588))))) (br 0 5 (br 0 4 (br 2 4 (el 18347598869611333712) (br 3 4 (el 18347598861260474448) (br 2 5 (el 18347598869074462800) (br 4 5 (el 18347581061745789008) (bm 244718298304188))))) (br 4 5 (br 2 4 (el 18347580984922366274) (br 2 5 (el 18347581259934818498) (bm 7475007099))) (br 2 4 (br 3 4 (br 2 5 (br 3 5 (el 18347598852120631362) (bm 7438519865)) (bm 7460327035)) (bm 7438519865)) (bm 7475007099)))) (br 2 5 (br 3 5 (br 4 5 (el 18347546066985377986) (br 2 4 (br 3 4 (el 18347598844071761986) (bm 7438519865)) (bm 7475007099))) (bm 929795709)) (bm 933990011))))) (br 1 5 (br 1 3 (br 0 5 (br 2 4 (el 18347598869611069577) (br 2 5 (el 18347598869074198665) (br 3 5 (el 18347598860723339401) (br 4 5 (el 18347581268541489289) (bm 7434280637))))) (br 2 4 (br 3 4 (el 18347598844013449353) (br 4 5 (el 18347580976349712521) (br 2 5 (br 3 5 (el 18347598843476054153) (bm 7438474813)) (bm 7453191739)))) (br 2 5 (br 3 5 (el 18347598843476316297) (br 4 5 (el 18347581251361575049) (bm 7438474813))) (br 3 4 (br 3 5 (br 4 5 (el 18347563658906785929) (bm 7438474813)) (bm 7424413437)) (bm 7472029243))))) (br 0 4 (br 0 5 (br 2 4 (el 18347598869611071568) (br 2 5 (el 18347598869074200656) (br 3 5 (el 18347598860723341392) (br 4 5 (el 18347581268541491280) (bm 244168408272573))))) (br 4 5 (br 2 4 (el 18347580976336642370) (br 2 5 (el 18347581251349094594) (bm 7475007099))) (br 2 4 (br 3 4 (br 2 5 (br 3 5 (el 18347598852657502274) (bm 7438519865)) (bm 7460327035)) (bm 7438519865)) (bm 7475007099)))) (br 2 4 (br 3 4 (br 4 5 (el 18347580976336527682) (br 2 5 (br 3 5 (el 18347598843534891074) (bm 7438519865)) (bm 7460327035))) (bm 929795708)) (bm 931892859)))) (br 0 4 (br 0 5 (br 2 4 (br 3 4 (el 18347598852670492752) (br 4 5 (el 18347580984369221712) (br 2 5 (br 3 5 (el 18347598852133097552) (bm 7422070649)) (bm 7471992633)))) (br 2 5 (br 3 5 (el 18347598852133359696) (br 4 5 (el 18347581259917955152) (bm 7455215481))) (br 3 4 (br 3 5 (br 4 5 (el 18347563666926458960) (bm 7422070649)) (bm 7455215481)) (bm 7471992633)))) (br 2 4 (br 3 4 (br 1 3 (el 18347598852657994050) (br 2 5 (br 3 5 (el 18347598852657502274) (bm 7453126205)) (bm 7453191739))) (br 2 5 (br 3 5 (br 4 5 (el 18347546066985066562) (bm 7456132733)) (bm 7456132733)) (bm 7472037433))) (br 2 5 (br 3 5 (br 4 5 (el 18347546066985394370) (bm 7456132733)) (bm 7456132733)) (bm 7456132733)))) (br 4 5 (br 2 4 (br 3 4 (br 1 3 (el 18347546066050308418) (br 0 5 (el 18347580984922267970) (br 2 5 (br 3 5 (el 18347546066049816642) (bm 30313358096061)) (bm 30313358097083)))) (br 1 3 (br 2 5 (br 3 5 (el 18347546066989570114) (bm 7472909948)) (bm 7472909948)) (bm 7469903420))) (br 1 3 (br 2 5 (br 3 5 (el 18347546066989570242) (bm 7455292985)) (bm 7472909948)) (bm 7469936187))) (br 0 5 (br 2 5 (br 3 5 (br 1 3 (el 18347598852120860866) (br 2 4 (br 3 4 (el 18347598852120631362) (bm 30528257227576)) (bm 243283798171195))) (bm 7472909948)) (bm 7472909948)) (bm 7422058301)))))))
noncomputable def t62_10 : Tr := (br 0 3 (br 3 4 (br 3 5 (br 0 4 (br 1 4 (el 18347598861251483920) (br 2 4 (el 18347598852632189200) (br 2 5 (el 18347598852095318288) (br 4 5 (el 18347563666926311696) (br 0 5 (br 1 5 (el 18347598860714612752) (bm 7400697661)) (bm 7438503737)))))) (br 0 5 (br 2 4 (el 18347598852632189072) (br 1 5 (el 18347598860714612880) (br 2 5 (el 18347598852095318160) (br 4 5 (el 18347563667496736912) (bm 7438471033))))) (br 2 4 (br 1 4 (el 18347598844072267827) (br 4 5 (el 18347545241416601651) (br 1 5 (br 2 5 (el 18347598843534874706) (bm 7472909948)) (bm 7436996413)))) (br 2 5 (br 1 5 (el 18347598843535134771) (br 4 5 (el 18347546066989584435) (bm 7456132733))) (br 1 4 (br 1 5 (br 4 5 (el 18347563658302965811) (bm 7436996413)) (bm 7456132733)) (bm 7472909948)))))) (br 1 3 (br 2 4 (br 0 4 (el 18347598852632680720) (br 1 4 (el 18347598844072268067) (br 0 5 (el 18347598852632680592) (br 4 5 (el 18347545241416601891) (bm 7472909948))))) (br 0 4 (br 1 4 (el 18347598860891310352) (br 4 5 (el 18347563117170989328) (br 0 5 (br 1 5 (el 18347598860891047952) (bm 7400767164)) (bm 7438503737)))) (br 0 5 (br 1 5 (el 18347598860891048080) (br 4 5 (el 18347563117741414544) (bm 7451098809))) (br 1 4 (br 1 5 (br 4 5 (el 18347563108547500073) (bm 7419641404)) (bm 7455292985)) (bm 7472909948))))) (br 2 5 (br 2 4 (br 0 4 (el 18347598852636446992) (br 1 4 (el 18347598844072269906) (br 0 5 (el 18347598852636446864) (br 4 5 (el 18347545241416603730) (bm 244864329260604))))) (br 4 5 (br 0 4 (el 18347581259909275920) (br 0 5 (el 18347581259943108752) (bm 7455292985))) (br 0 4 (br 1 4 (br 0 5 (br 1 5 (el 18347598869308885008) (bm 7400771259)) (bm 7455280889)) (bm 7400771259)) (bm 7451098809)))) (br 0 5 (br 1 5 (br 4 5 (el 18347581268528849040) (br 0 4 (br 1 4 (el 18347598861260015632) (bm 7400771259)) (bm 7474491129))) (bm 925085437)) (bm 933474041))))) (br 3 5 (br 1 3 (br 2 5 (br 0 4 (el 18347598852095547664) (br 0 5 (el 18347598852095547536) (br 1 5 (el 18347598843535134883) (br 4 5 (el 18347546066989584547) (bm 7456132733))))) (br 0 4 (br 1 4 (el 18347598860354439440) (br 4 5 (el 18347563667731847440) (br 0 5 (br 1 5 (el 18347598860354177040) (bm 7400734397)) (bm 7457377977)))) (br 0 5 (br 1 5 (el 18347598860354177168) (br 4 5 (el 18347563667765401744) (bm 7438471033))) (br 1 4 (br 1 5 (br 4 5 (el 18347563659108358185) (bm 7419608637)) (bm 7456132733)) (bm 7472037433))))) (br 2 4 (br 2 5 (br 0 4 (el 18347598852099576080) (br 0 5 (el 18347598852099575952) (br 1 5 (el 18347598843535136850) (br 4 5 (el 18347546066989586514) (bm 244314439228989))))) (br 4 5 (br 0 4 (el 18347563667727491344) (br 0 5 (el 18347563667761324176) (bm 7472037433))) (br 0 4 (br 1 4 (br 0 5 (br 1 5 (el 18347598869845755920) (bm 7400771259)) (bm 7457377977)) (bm 7400771259)) (bm 7451094777)))) (br 0 4 (br 1 4 (br 4 5 (el 18347563667727524112) (br 0 5 (br 1 5 (el 18347598860723144720) (bm 7400771259)) (bm 7459811065))) (bm 925085436)) (bm 931376889)))) (br 0 4 (br 1 4 (br 2 4 (br 1 3 (el 18347598869846149392) (br 2 5 (el 18347598869841482000) (br 0 5 (br 1 5 (el 18347598869845755920) (bm 7400734397)) (bm 7457377977)))) (br 4 5 (br 1 3 (el 18347581267904153872) (br 2 5 (el 18347581259909374224) (br 0 5 (br 1 5 (el 18347581267903760400) (bm 30313257466109)) (bm 30468010539577)))) (br 0 5 (br 1 5 (br 2 5 (el 18347598869308885008) (bm 7417872189)) (bm 7468203834)) (bm 7467769596)))) (br 2 4 (br 2 5 (br 4 5 (el 18347581259246637328) (br 0 5 (br 1 5 (el 18347598869304610832) (bm 7400697661)) (bm 7438503737))) (br 0 5 (br 1 5 (br 4 5 (el 18347581268528635920) (bm 7451426682)) (bm 7400734397)) (bm 7457377977))) (br 1 3 (br 0 5 (br 1 5 (br 2 5 (el 18347598869309016080) (br 4 5 (el 18347581268541425680) (bm 243068861034237))) (bm 7400767164)) (bm 7443033913)) (bm 7400767164)))) (br 0 5 (br 1 5 (br 1 3 (br 2 5 (el 18347598869309016208) (br 4 5 (el 18347581268541425808) (bm 7450992381))) (br 2 4 (br 2 5 (el 18347598869304610960) (br 4 5 (el 18347581268528914576) (bm 30467977214713))) (bm 7474122425))) (br 2 4 (br 2 5 (br 4 5 (el 18347581259817062544) (bm 7438471033)) (bm 7440936825)) (bm 7474122425))) (br 1 4 (br 2 4 (br 1 5 (br 2 5 (br 4 5 (el 18347581250623227986) (bm 7436996413)) (bm 7419608637)) (bm 7456132733)) (bm 7419641404)) (bm 7472909948)))))) (br 0 4 (br 0 5 (br 1 4 (br 1 5 (br 2 4 (el 18347598869845755984) (br 3 4 (el 18347598861260015696) (br 2 5 (el 18347598869308885072) (br 3 5 (el 18347598860723144784) (br 4 5 (el 18347581267903760464) (bm 7964876038199910205)))))) (br 2 5 (br 2 4 (el 18347598869841481808) (br 4 5 (el 18347581259909374032) (br 3 4 (br 3 5 (el 18347598861251631184) (bm 7434325689)) (bm 7434325689)))) (br 3 5 (br 3 4 (el 18347598861251631184) (br 4 5 (el 18347563667761078352) (bm 7434325689))) (bm 929279865)))) (br 2 4 (br 2 5 (br 3 4 (el 18347598852670001232) (br 1 5 (el 18347598869304610896) (br 3 5 (el 18347598852133130320) (br 4 5 (el 18347581259246637136) (bm 7964876038199910205))))) (br 3 5 (br 3 4 (el 18347598852665890896) (br 4 5 (el 18347563667761045584) (bm 7434325689))) (br 1 5 (br 4 5 (el 18347581268528635984) (bm 7434325689)) (bm 7434280637)))) (br 3 4 (br 3 5 (br 1 5 (el 18347598860714760272) (br 2 5 (el 18347598852129019984) (br 4 5 (el 18347563666926458960) (bm 7964876038199910205)))) (br 4 5 (br 1 5 (el 18347581268528570448) (br 2 5 (el 18347581259909275728) (bm 995609582349613181))) (bm 7434325689))) (bm 929279801)))) (br 2 5 (br 4 5 (br 1 5 (br 1 4 (el 18347581251349090404) (br 2 4 (el 18347581251348766802) (br 3 4 (el 18347581251349090356) (bm 7472394041)))) (br 3 5 (br 1 4 (el 18347546066985390180) (br 2 4 (el 18347546066985066578) (br 3 4 (el 18347546066985390132) (bm 243618784648892)))) (bm 929795709))) (br 2 4 (br 1 4 (br 1 5 (el 18347598869837367378) (br 3 4 (br 3 5 (el 18343234891006859346) (bm 7438519865)) (bm 7438519865))) (br 3 4 (br 3 5 (el 18347598852657502290) (bm 7438519865)) (bm 7438519865))) (br 1 3 (br 1 4 (br 3 4 (br 1 5 (br 3 5 (el 18347598861247273001) (bm 7419645499)) (bm 7438519865)) (bm 7419645499)) (bm 7438519865)) (bm 7475007099)))) (br 1 3 (br 1 5 (br 3 5 (br 1 4 (br 3 4 (el 18347598861247273001) (br 4 5 (el 18347563659104034857) (bm 7419645499))) (br 3 4 (br 4 5 (el 18347563658894221355) (bm 7438519865)) (bm 7472037433))) (bm 927436541)) (bm 929795709)) (bm 933990011)))) (br 2 4 (br 2 5 (br 1 4 (br 1 5 (br 3 4 (el 18347598844080146514) (br 0 5 (el 18347598869300496466) (br 3 5 (el 18347598843543275602) (br 4 5 (el 18347581250623227986) (bm 7964876038199910205))))) (br 3 5 (br 3 4 (el 18347598844071762002) (br 4 5 (el 18347546066985050194) (bm 7438519865))) (br 0 5 (br 4 5 (el 18347581259800272978) (bm 7438519865)) (bm 7451029117)))) (br 3 4 (br 3 5 (br 0 5 (el 18347598852120631378) (br 1 5 (el 18347598843534891090) (br 4 5 (el 18347546066049816658) (bm 7964876038199910205)))) (br 4 5 (br 0 5 (el 18347581259800174674) (br 1 5 (el 18347581251348652114) (bm 995609505006941885))) (bm 7438519865))) (bm 929795708))) (br 4 5 (br 0 5 (br 1 4 (br 1 5 (el 18347581268528906316) (br 3 5 (el 18347563667761315916) (bm 7455616889))) (br 3 4 (br 1 5 (el 18347581268528906268) (br 3 5 (el 18347563667761315868) (bm 243618650398397))) (bm 7472909948))) (br 1 3 (br 1 5 (br 3 5 (br 1 4 (el 18347563659103985705) (br 3 4 (el 18347563658894172203) (bm 996173691911239929))) (bm 7450992381)) (bm 7451029117)) (bm 7451094651))) (br 1 3 (br 1 4 (br 3 4 (br 1 5 (br 3 5 (el 18347598844075792425) (bm 7419645499)) (bm 7438519865)) (bm 7419645499)) (bm 7438519865)) (bm 7460327035)))) (br 1 3 (br 1 4 (br 3 4 (br 1 5 (br 3 5 (br 0 5 (el 18347598860710402089) (br 2 5 (el 18347598843538921513) (br 4 5 (el 18347563658302806057) (bm 7964876038199910205)))) (br 4 5 (br 0 5 (el 18347581268524359721) (br 2 5 (el 18347581251352879145) (bm 7964880436380901117))) (bm 7419645499))) (br 3 5 (br 4 5 (br 0 5 (el 18347563667748380715) (br 2 5 (el 18347546066980790315) (bm 7969376891195993725))) (bm 7438519865)) (bm 7455292985))) (bm 927436540)) (bm 929795708)) (bm 931892859)))))
noncomputable def t62_11 : Tr := (br 1 4 (br 3 5 (br 4 5 (br 1 2 (br 0 3 (el 18347563659108358409) (br 0 4 (el 18347563659104035081) (br 2 4 (el 18347563659103985929) (br 3 4 (el 18347563658302806281) (bm 925085436))))) (br 0 5 (br 0 3 (el 18347563667748774051) (br 0 4 (el 18347563667748771940) (br 2 4 (el 18347563667748771916) (br 3 4 (el 18347563667748380715) (bm 3789136142076))))) (br 1 5 (br 0 3 (el 18347563659108358185) (br 0 4 (el 18347563659104034857) (br 2 4 (el 18347563659103985705) (br 3 4 (el 18347563658302806057) (bm 244718279401212))))) (br 2 5 (br 0 3 (el 18347546066981183651) (br 0 4 (el 18347546066981181540) (br 2 4 (el 18347546066981181516) (br 3 4 (el 18347546066980790315) (bm 7964884837380464380))))) (bm 929795709))))) (br 3 4 (br 1 5 (br 0 4 (el 18347598861247273001) (br 2 4 (el 18347598844075792425) (br 0 5 (el 18347598860710402089) (br 2 5 (el 18347598843538921513) (bm 7400697661))))) (br 1 2 (br 0 4 (el 18347598861247273225) (br 2 4 (el 18347598844008683785) (br 2 5 (el 18347598843471812873) (bm 7438507580)))) (br 0 4 (br 0 5 (el 18347598861251625003) (br 2 4 (br 2 5 (el 18343234891006857259) (bm 7438519865)) (bm 7438519865))) (br 2 4 (br 2 5 (el 18347598844071759915) (bm 7438519865)) (bm 7438519865))))) (br 0 3 (br 0 4 (br 1 2 (el 18347598860354437385) (br 0 5 (el 18347598860354439216) (br 1 5 (el 18347598860354437161) (bm 7475269242)))) (br 1 5 (br 0 5 (el 18347598860354175017) (br 2 5 (el 18347598843539167273) (bm 7400734397))) (br 1 2 (br 2 5 (el 18347598843472058633) (bm 7457381946)) (bm 7475269242)))) (br 2 4 (br 2 5 (br 1 2 (el 18347598843476070665) (br 1 5 (el 18347598843543277609) (bm 7475269242))) (br 0 4 (br 0 5 (br 1 5 (el 18347598869845753897) (bm 7457381946)) (bm 7400771259)) (bm 7400771259))) (br 0 4 (br 0 5 (br 1 5 (el 18347598860723142697) (bm 7460064955)) (bm 7400771259)) (bm 7400771259)))))) (br 1 5 (br 0 5 (br 0 4 (br 2 4 (el 18347598869845753897) (br 3 4 (el 18347598861260013609) (br 2 5 (el 18347598869308882985) (br 4 5 (el 18347581267903758377) (bm 7417872189))))) (br 0 3 (br 3 4 (el 18347598860891045929) (br 2 5 (el 18347598869309014057) (br 4 5 (el 18347581268541423657) (bm 7451426682)))) (br 2 4 (br 2 5 (el 18347598869300498473) (br 4 5 (el 18347581268524425257) (bm 7400771259))) (br 3 4 (br 4 5 (el 18347581268524359721) (bm 7400771259)) (bm 7400767164))))) (br 0 3 (br 0 4 (br 2 4 (el 18347598869846147113) (br 3 4 (el 18347598860891308073) (br 4 5 (el 18347581267904151593) (bm 7468203834)))) (br 3 4 (br 2 4 (el 18347598844076300329) (br 4 5 (el 18347563108547500073) (bm 7400767164))) (br 2 4 (br 2 5 (br 4 5 (el 18347581250623229993) (bm 7400697661)) (bm 7400734397)) (bm 7400767164)))) (br 2 5 (br 2 4 (br 0 4 (el 18347598869837369385) (br 3 4 (el 18347598844080148521) (br 4 5 (el 18347581250623229993) (bm 243068726783805)))) (br 4 5 (br 0 4 (el 18347581251352993833) (br 3 4 (el 18347581251352879145) (bm 243618751102652))) (bm 7400771259))) (bm 925085437)))) (br 1 2 (br 0 3 (br 0 4 (br 2 4 (el 18347598869846147337) (br 3 4 (el 18347598860891308297) (br 4 5 (el 18347581267904151817) (bm 7417536252)))) (br 3 4 (br 2 4 (el 18347598844009191689) (br 4 5 (el 18347563108547500297) (bm 7438507580))) (br 2 4 (br 2 5 (br 4 5 (el 18347581250623131913) (bm 7438507580)) (bm 7457381946)) (bm 7443287740)))) (br 2 5 (br 2 4 (br 0 4 (el 18347598869837271305) (br 3 4 (el 18347598844012941577) (br 4 5 (el 18347581250623131913) (bm 997862541502544508)))) (br 4 5 (br 0 4 (el 18347581251285885193) (br 3 4 (el 18347581251285770505) (bm 7982899236023738044))) (bm 7455284795))) (bm 933727931))) (br 0 3 (br 0 5 (br 0 4 (br 2 4 (el 18347598869846149168) (br 3 4 (el 18347598860891310128) (br 4 5 (el 18347581267904153648) (bm 244718281494268)))) (br 3 4 (br 4 5 (el 18347563117724131619) (bm 7460589178)) (bm 7475269242))) (bm 934252154)) (bm 934252154))))) (br 3 4 (br 2 4 (br 3 5 (br 2 5 (br 0 4 (el 18347598852657500203) (br 0 5 (el 18347598852120629291) (br 1 5 (el 18347598843534889003) (br 4 5 (el 18347546066049814571) (bm 7436738365))))) (br 1 2 (br 0 4 (el 18347598852657991723) (br 1 5 (el 18347598844008683657) (br 4 5 (el 18347546066050306091) (bm 7472909948)))) (br 0 5 (br 0 4 (el 18347598852665884715) (br 4 5 (el 18347563667748347947) (bm 7438519865))) (br 1 5 (br 4 5 (el 18347563658894172203) (bm 7438519865)) (bm 7453126205))))) (br 1 2 (br 0 3 (br 0 4 (el 18347598852657991971) (br 1 5 (el 18347598844009191561) (br 4 5 (el 18347546066050306339) (bm 7472909948)))) (br 2 5 (br 0 4 (el 18347598852657993802) (br 1 5 (el 18347598844012941449) (br 4 5 (el 18347546066050308170) (bm 244855739321980)))) (br 0 5 (br 1 5 (br 4 5 (el 18347581268524589193) (bm 7474745019)) (bm 7474745019)) (bm 7451422461)))) (br 4 5 (br 1 5 (br 0 3 (el 18347563109138358563) (br 0 5 (el 18347581268524648476) (br 2 5 (el 18347581251353167900) (bm 244168391462653)))) (br 0 3 (br 0 5 (el 18347563117724098851) (bm 7453195834)) (bm 7453195834))) (br 0 3 (br 0 4 (br 0 5 (el 18347598852666234928) (bm 7460589178)) (bm 7460589178)) (bm 7460589178))))) (br 1 5 (br 1 2 (br 4 5 (br 0 3 (el 18347563109151479945) (br 0 5 (el 18347581268524654729) (br 2 5 (el 18347581251353174153) (br 3 5 (el 18347563658906785929) (bm 7964880438259490557))))) (br 0 5 (br 0 3 (el 18347598860891046025) (br 3 5 (el 18347598860710402185) (bm 7453195834))) (br 2 5 (br 3 5 (el 18347598843471812745) (bm 7453195834)) (bm 7438474813)))) (br 0 4 (br 4 5 (br 0 3 (el 18347563109138407715) (br 0 5 (el 18347581268524648500) (br 2 5 (el 18347581251353167924) (br 3 5 (el 18347563658894221355) (bm 7964880438259949309))))) (br 0 5 (br 0 3 (el 18347598860891047984) (br 3 5 (el 18347598860714754091) (bm 8005981421232635449))) (bm 7438519865))) (bm 929795708))) (br 3 5 (br 2 5 (br 1 2 (br 0 5 (el 18347598852120858667) (br 4 5 (el 18347546066989568043) (bm 7456132733))) (br 0 4 (br 0 5 (el 18347598852129013803) (br 4 5 (el 18347546066980806699) (bm 30528257227576))) (bm 7469903420))) (br 0 4 (br 0 5 (br 4 5 (el 18347563666926452779) (bm 7436750713)) (bm 7456132733)) (bm 7472909948))) (br 0 3 (br 0 4 (br 0 5 (br 4 5 (el 18347563117170989104) (bm 7417544505)) (bm 7455292985)) (bm 7472909948)) (bm 7455292985))))) (br 1 2 (br 1 5 (br 0 3 (br 0 5 (br 2 5 (el 18347598869309014153) (br 3 5 (el 18347598860354175113) (br 4 5 (el 18347581268541423753) (bm 7417503485)))) (br 3 5 (br 2 5 (el 18347598843472058505) (br 4 5 (el 18347563659175467145) (bm 7438474813))) (br 2 4 (br 2 5 (br 4 5 (el 18347581251227111561) (bm 7438474813)) (bm 7441190589)) (bm 7474126394)))) (br 2 4 (br 2 5 (br 0 5 (el 18347598869300400265) (br 3 5 (el 18347598843476070537) (br 4 5 (el 18347581251227111561) (bm 997861991746730109)))) (br 4 5 (br 0 5 (el 18347581268524720265) (br 3 5 (el 18347563659171389577) (bm 7982894836903452349))) (bm 7453191739))) (bm 931630779))) (br 2 5 (br 3 5 (br 0 3 (br 0 5 (el 18347598852120858787) (br 4 5 (el 18347546066989568163) (bm 7456132733))) (br 2 4 (br 0 5 (el 18347598852120860746) (br 4 5 (el 18347546066989570122) (bm 244305849290365))) (bm 7474745019))) (br 0 4 (br 2 4 (br 0 5 (br 4 5 (el 18347581259246714954) (bm 7436750713)) (bm 7456132733)) (bm 7417544505)) (bm 7472909948))) (br 0 3 (br 0 4 (br 0 5 (br 3 5 (br 4 5 (el 18347563667731847216) (bm 7417511801)) (bm 7417511801)) (bm 7456132733)) (bm 7472037433)) (bm 7472037433)))) (br 0 3 (br 0 4 (br 0 5 (br 1 5 (br 2 5 (el 18347598869309016112) (br 3 5 (el 18347598860354177072) (br 4 5 (el 18347581268541425712) (bm 244168391462653)))) (br 3 5 (br 2 5 (el 18347598852129101872) (br 4 5 (el 18347563667731847216) (bm 998178590831442173))) (br 2 4 (br 2 5 (br 4 5 (el 18347581259246719024) (bm 243687220875069)) (bm 998178590831442173)) (bm 998179140587256572)))) (br 3 5 (br 4 5 (br 1 5 (el 18347563659163050147) (br 2 5 (el 18347546066981200035) (bm 7985428729246625341))) (bm 7475269242)) (bm 7475269242))) (bm 932155002)) (bm 932155002)))))
noncomputable def t62_12 : Tr := (br 1 2 (br 1 4 (br 1 5 (br 0 4 (br 0 5 (br 2 4 (el 18347598869845753929) (br 3 4 (el 18347598861260013641) (br 2 5 (el 18347598869308883017) (br 3 5 (el 18347598860723142729) (br 4 5 (el 18347581267903758409) (bm 7964876039139204925)))))) (br 2 5 (br 2 4 (el 18347598869837271113) (br 4 5 (el 18347581251285885001) (br 3 4 (br 3 5 (el 18347598861247436873) (bm 7436422714)) (bm 7436422714)))) (br 3 5 (br 3 4 (el 18347598861247436873) (br 4 5 (el 18347563659171143753) (bm 7436422714))) (bm 929533629)))) (br 2 4 (br 2 5 (br 3 4 (el 18347598844080050249) (br 0 5 (el 18347598869300400201) (br 3 5 (el 18347598843543179337) (br 4 5 (el 18347581250623131721) (bm 7964876039139204925))))) (br 3 5 (br 3 4 (el 18347598844075956297) (br 4 5 (el 18347563659171094601) (bm 7436422714))) (br 0 5 (br 4 5 (el 18347581268524425289) (bm 7436422714)) (bm 7451025085)))) (br 3 4 (br 3 5 (br 0 5 (el 18347598860710565961) (br 2 5 (el 18347598843539085385) (br 4 5 (el 18347563658302969929) (bm 7964876039139204925)))) (br 4 5 (br 0 5 (el 18347581268524359753) (br 2 5 (el 18347581251285770313) (bm 995609573726451325))) (bm 7436422714))) (bm 929533628)))) (br 2 5 (br 4 5 (br 0 5 (br 0 4 (el 18347581259934814308) (br 2 4 (el 18347581259934490698) (br 3 4 (el 18347581259934814252) (bm 7472647868)))) (br 3 5 (br 0 4 (el 18347546066985373796) (br 2 4 (el 18347546066985050186) (br 3 4 (el 18347546066985373740) (bm 243618786741948)))) (bm 929795709))) (br 2 4 (br 0 4 (br 0 5 (el 18347598869841559626) (br 3 4 (br 3 5 (el 18343234891006859338) (bm 7438519865)) (bm 7438519865))) (br 3 4 (br 3 5 (el 18347598844071761994) (bm 7438519865)) (bm 7438519865))) (br 0 3 (br 0 4 (br 3 4 (br 0 5 (br 3 5 (el 18347598861251483696) (bm 7417548537)) (bm 7438519865)) (bm 7417548537)) (bm 7438519865)) (bm 7475007099)))) (br 0 3 (br 0 5 (br 3 5 (br 0 4 (br 3 4 (el 18347598861251483696) (br 4 5 (el 18347563667727523888) (bm 7417548537))) (br 3 4 (br 4 5 (el 18347563667479945267) (bm 7438519865)) (bm 7472037433))) (bm 927186809)) (bm 929795709)) (bm 933990011)))) (br 2 4 (br 2 5 (br 0 4 (br 0 5 (br 3 4 (el 18347598852670079050) (br 1 5 (el 18347598869304688714) (br 3 5 (el 18347598852133208138) (br 4 5 (el 18347581259246714954) (bm 7964876039139204925))))) (br 3 5 (br 3 4 (el 18347598852657502282) (br 4 5 (el 18347546066985066570) (bm 7438519865))) (br 1 5 (br 4 5 (el 18347581251214549066) (bm 7438519865)) (bm 7453126205)))) (br 3 4 (br 3 5 (br 0 5 (el 18347598852120631370) (br 1 5 (el 18347598843534891082) (br 4 5 (el 18347546066049816650) (bm 7964876039139204925)))) (br 4 5 (br 0 5 (el 18347581259934392394) (br 1 5 (el 18347581251214434378) (bm 995609505006941885))) (bm 7438519865))) (bm 929795708))) (br 4 5 (br 1 5 (br 0 4 (br 0 5 (el 18347581268524714068) (br 3 5 (el 18347563659171383380) (bm 7455870653))) (br 3 4 (br 0 5 (el 18347581268524714012) (br 3 5 (el 18347563659171383324) (bm 243618652491453))) (bm 7472909948))) (br 0 3 (br 0 5 (br 3 5 (br 0 4 (el 18347563667727491120) (br 3 4 (el 18347563667479912499) (bm 996208884890040568))) (bm 7417503485)) (bm 7453126205)) (bm 7453191739))) (br 0 3 (br 0 4 (br 3 4 (br 0 5 (br 3 5 (el 18347598852665743408) (bm 7417548537)) (bm 7438519865)) (bm 7417548537)) (bm 7438519865)) (bm 7460327035)))) (br 0 3 (br 0 4 (br 3 4 (br 0 5 (br 3 5 (br 1 5 (el 18347598860714612784) (br 2 5 (el 18347598852128872496) (br 4 5 (el 18347563666926311472) (bm 7964876039139204925)))) (br 4 5 (br 1 5 (el 18347581268528570416) (br 2 5 (el 18347581259942830128) (bm 7964880438259490557))) (bm 7417548537))) (br 3 5 (br 4 5 (br 1 5 (el 18347563659162656819) (br 2 5 (el 18347546066980806707) (bm 7969658434908958269))) (bm 7438519865)) (bm 7455292985))) (bm 927186745)) (bm 929795708)) (bm 931892859)))) (br 0 3 (br 0 4 (br 0 5 (br 1 4 (br 1 5 (br 2 4 (el 18347598869845755952) (br 3 4 (el 18347598861260015664) (br 2 5 (el 18347598869308885040) (br 3 5 (el 18347598860723144752) (br 4 5 (el 18347581267903760432) (bm 7964876039139434301)))))) (br 2 5 (br 2 4 (el 18347598869841563696) (br 4 5 (el 18347581259942928432) (br 3 4 (br 3 5 (el 18347598861251483696) (bm 1000430940400941883)) (bm 1000430940400941883)))) (br 3 5 (br 3 4 (el 18347598861251483696) (br 4 5 (el 18347563667727523888) (bm 30313090020475))) (bm 3789136142077)))) (br 2 4 (br 2 5 (br 3 4 (el 18347598852670083120) (br 1 5 (el 18347598869304692784) (br 3 5 (el 18347598852133212208) (br 4 5 (el 18347581259246719024) (bm 7964876039139434301))))) (br 3 5 (br 3 4 (el 18347598852665743408) (br 4 5 (el 18347563667727491120) (bm 1000430940400941883))) (br 1 5 (br 4 5 (el 18347581268528635952) (bm 1000430940400941883)) (bm 244168391462653)))) (br 3 4 (br 3 5 (br 1 5 (el 18347598860714612784) (br 2 5 (el 18347598852128872496) (br 4 5 (el 18347563666926311472) (bm 7964876039139434301)))) (br 4 5 (br 1 5 (el 18347581268528570416) (br 2 5 (el 18347581259942830128) (bm 7964880438259949309))) (bm 30313090020475))) (bm 3789136142076)))) (br 3 5 (br 4 5 (br 1 5 (br 1 4 (el 18347563659163048036) (br 2 4 (el 18347563659163048020) (br 3 4 (el 18347563659162656819) (bm 244718279401212)))) (br 2 5 (br 1 4 (el 18347546066981197924) (br 2 4 (el 18347546066981197908) (br 3 4 (el 18347546066980806707) (bm 7964884837380464380)))) (bm 3798818729533))) (br 3 4 (br 1 4 (br 1 5 (el 18347598861247432755) (br 2 4 (br 2 5 (el 18343234891006857267) (bm 30390549838648)) (bm 1000430940686482232))) (br 2 4 (br 2 5 (el 18347598852657500211) (bm 1000430940686482232)) (bm 30390549838648))) (bm 7475269242))) (bm 934252154))) (br 3 4 (br 3 5 (br 1 4 (br 1 5 (br 2 4 (el 18347598844075952179) (br 0 5 (el 18347598860710561843) (br 2 5 (el 18347598843539081267) (br 4 5 (el 18347563658302965811) (bm 7964876039139434301))))) (br 2 5 (br 2 4 (el 18347598844071759923) (br 4 5 (el 18347546066980790323) (bm 1000430940686482232))) (br 0 5 (br 4 5 (el 18347563667479945267) (bm 30390549838648)) (bm 30519264605885)))) (br 2 4 (br 2 5 (br 0 5 (el 18347598852120629299) (br 1 5 (el 18347598843534889011) (br 4 5 (el 18347546066049814579) (bm 7964876039139434301)))) (br 4 5 (br 0 5 (el 18347563667479912499) (br 1 5 (el 18347563659162607667) (bm 32624132260783096624829))) (bm 1000430940686482232))) (bm 3798818729532))) (br 0 5 (br 4 5 (br 1 4 (br 1 5 (el 18347581268528840748) (br 2 5 (el 18347581259943100460) (bm 244168389369597))) (br 2 4 (br 1 5 (el 18347581268528840732) (br 2 5 (el 18347581259943100444) (bm 7964880438259949309))) (bm 244864329260604))) (bm 7460589178)) (bm 7451098746))) (bm 932155002))) (bm 115580603)))
noncomputable def t62 : Tr := (br 0 1 t62_5 (br 2 3 (br 4 5 (br 2 4 (br 3 5 (br 0 2 (br 0 3 (el 18347545791977265426) (br 1 3 (el 18347545791977249042) (br 0 4 (el 18347545791972942098) (br 1 4 (el 18347545791972925714) (br 3 4 (el 18347545791171713298) (bm 115580668)))))) (br 1 2 (br 0 3 (el 18347546066855172362) (br 1 3 (el 18347546066855155978) (br 0 4 (el 18347546066850849034) (br 1 4 (el 18347546066850832650) (br 3 4 (el 18347546066049620234) (bm 927178492)))))) (br 0 5 (br 0 3 (el 18347563667748741267) (br 1 3 (el 18347563667748741259) (br 0 4 (el 18347563667748739156) (br 1 4 (el 18347563667748739148) (br 3 4 (el 18347563667748347931) (bm 3789136142076)))))) (br 1 5 (br 0 3 (el 18347563659163000979) (br 1 3 (el 18347563659163000971) (br 0 4 (el 18347563659162998868) (br 1 4 (el 18347563659162998860) (br 3 4 (el 18347563659162607643) (bm 244718279401212)))))) (br 2 5 (br 0 3 (el 18347546066855172122) (br 1 3 (el 18347546066855155738) (br 0 4 (el 18347546066850848794) (br 1 4 (el 18347546066850832410) (br 3 4 (el 18347546066049619994) (bm 7964884837380464380)))))) (bm 115580605)))))) (br 0 3 (br 0 5 (br 0 2 (el 18347581259817455760) (br 0 4 (el 18347581259247112240) (br 3 4 (el 18347563667479912723) (br 2 5 (el 18347581259951489050) (br 1 2 (br 1 3 (br 1 4 (el 18347597839313948937) (br 1 5 (el 18347597839322169481) (bm 7457386041))) (br 1 4 (br 1 5 (el 18347581250623524937) (bm 7457386041)) (bm 7443549820))) (br 1 3 (br 1 4 (br 1 5 (el 18347597839322169385) (bm 7475269242)) (bm 7475269242)) (bm 7475269242))))))) (br 3 4 (br 0 2 (el 18347545241416407314) (br 1 2 (el 18347545516294314250) (br 2 5 (el 18347545516294314010) (br 1 3 (br 1 5 (el 18346437209231515907) (bm 934252154)) (bm 934252154))))) (br 0 4 (br 0 2 (el 18347581259247030544) (br 1 2 (el 18347581259247108362) (br 2 5 (el 18347581259247108122) (br 1 3 (br 1 4 (br 1 5 (el 18346612676367073321) (bm 7475269242)) (bm 7475269242)) (bm 7475269242))))) (br 1 3 (br 1 4 (br 0 2 (el 18347597839314045202) (br 1 2 (el 18347597839313948937) (br 1 5 (el 18347597839314047017) (br 2 5 (el 18347597839314044954) (bm 7989648038529744506))))) (br 1 5 (br 1 2 (el 18347597839313948809) (br 2 5 (el 18347597839313782810) (bm 7457386041))) (bm 934252156))) (br 1 4 (br 1 5 (br 1 2 (el 18347581250623524937) (br 2 5 (el 18347581250623227930) (bm 7457386041))) (bm 932155005)) (bm 934252156)))))) (br 1 5 (br 1 3 (br 1 2 (el 18347581251227504777) (br 1 4 (el 18347581250623623209) (br 3 4 (el 18347563658894172427) (br 2 5 (el 18347581251361556506) (br 0 2 (br 0 4 (br 0 5 (el 18347581259247030352) (bm 7457386041)) (bm 7443549820)) (bm 7475269242)))))) (br 1 2 (br 0 4 (el 18347581251214549258) (br 1 4 (el 18347581250623524937) (br 3 4 (el 18347581251214434570) (bm 934252156)))) (br 2 5 (br 0 4 (el 18347581251348766746) (br 1 4 (el 18347581250623227930) (br 3 4 (el 18347581251348652058) (bm 7419641404)))) (br 0 2 (br 0 5 (br 0 4 (el 18347581259247030352) (br 1 4 (el 18347581259800273170) (br 3 4 (el 18347581259800174866) (bm 7985433129306205756)))) (bm 933990011)) (bm 934252154))))) (br 1 3 (br 1 4 (br 0 2 (el 18347581250623621394) (br 1 2 (el 18347581250623525129) (br 2 5 (el 18347581250623621146) (bm 934252154)))) (br 3 4 (br 0 2 (el 18347545791172204818) (br 1 2 (el 18347546066050111754) (br 2 5 (el 18347546066050111514) (bm 7453195834)))) (br 0 4 (br 0 5 (br 0 2 (el 18347581259247030352) (br 2 5 (el 18347581259246714906) (bm 7457386041))) (bm 932155005)) (bm 934252156)))) (br 0 5 (br 0 2 (br 0 4 (el 18347581259247030352) (br 1 4 (el 18347581259800273170) (br 3 4 (el 18347581259800174866) (bm 3807442288188)))) (br 2 5 (br 0 4 (el 18347581259246714906) (br 1 4 (el 18347581259934490650) (br 3 4 (el 18347581259934392346) (bm 30381960395516)))) (bm 933990011))) (bm 115580669)))))) t62_6) (br 0 4 t62_7 t62_8)) (br 0 2 (br 1 2 t62_9 t62_10) (br 1 3 t62_11 t62_12))))
noncomputable def t63_0 : Tr := (br 0 2 (br 1 2 (br 0 3 (el 18347598870148467088) (br 1 3 (el 18347598870148465033) (br 0 4 (el 18347598870148467024) (br 1 4 (el 18347598870148464969) (br 0 5 (el 18347598870148466896) (br 1 5 (el 18347598870148464841) (br 2 4 (br 3 4 (el 18347598853194897730) (br 2 5 (br 3 5 (el 18347598853194635330) (bm 59506925373)) (bm 59775360827))) (br 2 5 (br 3 5 (el 18347598853194635458) (bm 59641143163)) (bm 59506925373))))))))) (br 0 3 (br 1 3 (el 18347598870383282576) (br 2 4 (el 18347598870378877328) (br 3 4 (el 18347598861788879248) (br 2 5 (el 18347598870378615184) (br 3 5 (el 18347598861788617104) (br 0 4 (br 1 4 (el 18347598870383151376) (br 0 5 (br 1 5 (el 18347598870382888976) (bm 59205467965)) (bm 59742338873))) (br 0 5 (br 1 5 (el 18347598870382889104) (bm 59608121209)) (bm 59205467965)))))))) (br 0 4 (br 1 4 (el 18347598870383151440) (br 2 4 (el 18347598870378877264) (br 3 4 (el 18347598861789026640) (br 2 5 (el 18347598870378615120) (br 0 5 (br 1 5 (el 18347598870382889040) (br 3 5 (el 18347598861788764240) (bm 59473907577))) (br 1 3 (br 1 5 (br 3 5 (el 18347598861784406185) (bm 59205471997)) (bm 59473907325)) (bm 59742342779))))))) (br 0 5 (br 2 4 (el 18347598870378877136) (br 1 5 (el 18347598870382889168) (br 2 5 (el 18347598870378614992) (br 3 5 (el 18347598861788764368) (br 1 3 (br 1 4 (br 3 4 (el 18347598861784668457) (bm 59205476092)) (bm 59473911420)) (bm 59608129147)))))) (br 1 4 (br 2 4 (el 18347598870374762834) (br 3 5 (br 1 3 (el 18347598861784406313) (br 3 4 (el 18347598861784827963) (br 1 5 (el 18347598861784569961) (br 2 5 (el 18347598853194635474) (bm 244294916214395))))) (br 3 4 (br 1 3 (el 18347598861784668457) (br 1 5 (el 18347598861784832105) (bm 59641143163))) (br 1 5 (br 2 5 (el 18347598870374502505) (bm 59355938621)) (bm 59355938621))))) (br 2 5 (br 1 5 (el 18347598870374500562) (br 3 5 (el 18347598853194635474) (br 2 4 (br 3 4 (el 18347598853194897490) (bm 59506925373)) (bm 59506925436)))) (br 3 4 (br 2 4 (el 18347598853194897746) (br 1 5 (br 1 3 (el 18347598861784668329) (br 3 5 (el 18347598861784565819) (bm 244294916214395))) (bm 59506925373))) (br 1 3 (br 1 5 (br 3 5 (el 18347598861784406185) (bm 59355938684)) (bm 59506925373)) (bm 59775360827))))))))) (br 1 3 (br 1 4 (br 0 3 (el 18347598870383280425) (br 0 4 (el 18347598870383149353) (br 2 4 (el 18347598870374764841) (br 3 4 (el 18347598861784668457) (br 3 5 (el 18347598861784406313) (br 1 5 (br 0 5 (el 18347598870382886953) (br 2 5 (el 18347598870374502441) (bm 59205467965))) (br 1 2 (br 2 5 (el 18347598870374404361) (bm 59758587644)) (bm 59758591802)))))))) (br 1 2 (br 0 3 (el 18347598870383280521) (br 2 4 (el 18347598870374666633) (br 3 4 (el 18347598861784668553) (br 2 5 (el 18347598870374404489) (br 3 5 (el 18347598861784406409) (br 0 5 (br 1 5 (el 18347598870382887049) (bm 59206000315)) (bm 59624369917))))))) (br 1 5 (br 0 3 (el 18347598870383280297) (br 3 4 (el 18347598861784668329) (br 0 5 (el 18347598870382887081) (br 2 5 (el 18347598870374502569) (br 3 5 (el 18347598861784406185) (bm 59624374138)))))) (br 0 4 (br 0 3 (el 18347598870383282480) (br 3 4 (el 18347598861789020459) (br 0 5 (br 2 4 (el 18347598870378958960) (br 2 5 (el 18347598870378696816) (br 3 5 (el 18347598861788764272) (bm 243055545012089)))) (br 2 5 (br 2 4 (el 18347598870378954842) (br 3 5 (el 18347598853194633387) (bm 244363769908858))) (bm 59657920189))))) (br 0 5 (br 0 3 (el 18347598870383282352) (br 3 5 (el 18347598861788758187) (br 2 4 (br 3 4 (el 18347598853194895659) (br 2 5 (el 18347598870378692698) (bm 244363769908858))) (bm 59792137916)))) (br 2 4 (br 3 4 (el 18347598853194895659) (br 2 5 (br 3 5 (el 18347598853194635354) (bm 59506925373)) (bm 59657920189))) (br 2 5 (br 3 5 (el 18347598853194633387) (bm 59792137916)) (bm 59506925373)))))))) (br 0 4 (br 0 5 (br 1 4 (el 18347598870383151216) (br 2 4 (el 18347598870378958960) (br 3 4 (el 18347598861789026416) (br 1 5 (el 18347598870382889072) (br 2 5 (el 18347598870378696816) (br 3 5 (el 18347598861788764272) (bm 59339951993))))))) (br 0 3 (br 1 4 (el 18347598870383151408) (br 2 4 (el 18347598870378959152) (br 3 4 (el 18347598861788879152) (br 3 5 (el 18347598861788617008) (br 1 2 (br 1 5 (br 2 5 (el 18347598870374404297) (bm 59205734077)) (bm 59339951741)) (bm 59742604922)))))) (br 1 2 (br 1 4 (el 18347598870383149385) (br 2 4 (el 18347598870378955082) (br 3 5 (br 3 4 (el 18347598861789020219) (br 1 5 (el 18347598861784570057) (br 2 5 (el 18347598853194635466) (bm 244294916214395)))) (br 1 5 (br 2 5 (el 18347598870374404297) (bm 59624370043)) (bm 59641143163))))) (br 1 4 (br 1 5 (el 18347598870383149161) (br 2 4 (br 2 5 (el 18347598869842083930) (br 3 4 (br 3 5 (el 18343234899601506363) (bm 59808915131)) (bm 59808915131))) (br 3 4 (br 3 5 (el 18347598861252149307) (bm 59808915131)) (bm 59808915131)))) (br 2 4 (br 2 5 (el 18347598870378954842) (br 3 4 (br 3 5 (el 18347598861789020219) (bm 59808915131)) (bm 59808915131))) (br 3 4 (br 3 5 (el 18347598861789020219) (bm 59808915131)) (bm 59808915131))))))) (br 1 5 (br 1 4 (br 2 4 (el 18347598870374764649) (br 3 4 (el 18347598861784832105) (br 0 5 (el 18347598870382887017) (br 2 5 (el 18347598870374502505) (br 3 5 (el 18347598861784569961) (bm 59490152253)))))) (br 1 2 (br 2 4 (el 18347598870374666441) (br 0 5 (el 18347598870382887113) (br 2 5 (el 18347598870374404297) (br 3 5 (el 18347598861784570057) (bm 59490152316))))) (br 0 3 (br 0 5 (el 18347598870382889136) (br 3 5 (el 18347598861784565939) (br 2 4 (br 3 4 (el 18347598853194895667) (br 2 5 (el 18347598870374500442) (bm 244363769908858))) (bm 59792137916)))) (br 2 4 (br 2 5 (el 18347598870374500442) (br 3 4 (br 3 5 (el 18347598861784565819) (bm 59808915131)) (bm 59808915131))) (br 3 4 (br 3 5 (el 18347598861784565819) (bm 59808915131)) (bm 59808915131)))))) (br 3 4 (br 2 4 (br 1 2 (el 18347598853194897738) (br 0 3 (el 18347598853194895667) (br 2 5 (el 18347598853194897498) (br 3 5 (el 18347598853194895419) (bm 59808915131))))) (br 1 4 (br 1 2 (el 18347598861784832329) (br 0 3 (el 18347598861784828211) (br 3 5 (el 18347598861784827963) (bm 59808915131)))) (br 0 5 (br 0 3 (el 18347598861788879024) (br 3 5 (el 18347598861788758075) (br 1 2 (br 2 5 (el 18347598870378692810) (bm 244294916214395)) (bm 244226062519995)))) (br 2 5 (br 3 5 (el 18347598853194633275) (bm 59506925436)) (bm 59506925373))))) (br 2 5 (br 1 2 (br 1 4 (el 18347598870374404425) (br 0 5 (el 18347598870378692810) (br 3 5 (el 18347598853194635466) (bm 59506925373)))) (br 2 4 (br 1 4 (el 18347598870374762586) (br 0 5 (el 18347598870378692698) (br 3 5 (el 18347598853194635354) (bm 243124398690109)))) (br 0 3 (br 0 5 (el 18347598870378696880) (br 3 5 (el 18347598853194633395) (bm 244363769908858))) (bm 59808915131)))) (br 1 2 (br 1 4 (br 2 4 (el 18347598870374666569) (br 0 3 (br 0 5 (br 3 5 (el 18347598861788616880) (bm 59205738172)) (bm 59490152253)) (bm 59758587707))) (br 0 3 (br 0 5 (br 3 5 (el 18347598861788616880) (bm 59339955836)) (bm 59506925373)) (bm 59775360827))) (br 0 3 (br 0 5 (br 3 5 (el 18347598861788616880) (bm 59608391290)) (bm 59657920189)) (bm 59808915131)))))))))
noncomputable def t63_1 : Tr := (br 0 1 (br 0 2 (br 1 2 (el 18347598870148417984) (br 1 3 (el 18347598870349679040) (br 2 3 (el 18347598870345454016) (br 1 4 (el 18347598870349547968) (br 2 4 (el 18347598870345322944) (br 1 5 (el 18347598870349285824) (br 2 5 (el 18347598870345060800) (br 3 4 (br 0 3 (el 18347598793035848064) (br 0 4 (el 18347598861789026624) (br 0 5 (br 3 5 (el 18347598861788764352) (br 4 5 (el 18347581269602721984) (bm 59607854971))) (br 3 5 (br 4 5 (el 18347563668822155323) (bm 59473637181)) (bm 59607854845))))) (br 3 5 (br 0 3 (el 18347598793035585920) (br 0 5 (el 18347598861788764352) (br 0 4 (br 4 5 (el 18347581200849412416) (bm 59742072635)) (bm 59742072572)))) (br 4 5 (br 0 4 (el 18347581200849412416) (br 0 5 (el 18347581269602721984) (bm 59742072572))) (bm 7414202173))))))))))) (br 0 3 (br 1 2 (el 18347598870316190112) (br 1 3 (el 18347598870383233440) (br 2 3 (el 18347598870379090336) (br 1 4 (el 18347598870383102368) (br 3 4 (el 18347598861755324832) (br 1 5 (el 18347598870382840224) (br 3 5 (el 18347598861755062688) (br 0 4 (br 2 4 (el 18347598870378959136) (br 4 5 (el 18347581269568889120) (br 0 5 (br 2 5 (el 18347598870378696736) (bm 59339423549)) (bm 59742076730)))) (br 0 5 (br 2 5 (el 18347598870378696864) (br 4 5 (el 18347581269602721952) (bm 59607859066))) (br 2 4 (br 2 5 (br 4 5 (el 18347581261008265306) (bm 59339423549)) (bm 59607858877)) (bm 59742076604))))))))))) (br 0 4 (br 1 2 (el 18347598870316190048) (br 1 3 (el 18347598870383233376) (br 1 4 (el 18347598870383102304) (br 2 4 (el 18347598870378959200) (br 3 4 (el 18347598861789026656) (br 1 5 (el 18347598870382840160) (br 4 5 (el 18347581269568889184) (br 0 5 (br 2 5 (el 18347598870378696800) (br 3 5 (el 18347598861788764256) (bm 59473645434))) (br 2 3 (br 2 5 (br 3 5 (el 18347598853194438810) (bm 59339427581)) (bm 59473645245)) (bm 59742080699)))))))))) (br 0 5 (br 1 2 (el 18347598870316189920) (br 1 3 (el 18347598870383233248) (br 1 4 (el 18347598870383102176) (br 1 5 (el 18347598870382840032) (br 2 5 (el 18347598870378696928) (br 3 5 (el 18347598861788764384) (br 4 5 (el 18347581269602722016) (br 2 3 (br 2 4 (br 3 4 (el 18347598853194701082) (bm 59339431676)) (bm 59473649340)) (bm 59607867067))))))))) (br 2 3 (br 1 2 (el 18347598870307688897) (br 1 3 (el 18347598870374896033) (br 4 5 (br 1 4 (el 18347581269531124065) (br 2 4 (el 18347581261008265498) (br 3 4 (el 18347563668822155547) (br 1 5 (el 18347581269598527713) (br 2 5 (el 18347581261008593050) (br 3 5 (el 18347563668822548635) (bm 243676306443964))))))) (br 2 4 (br 1 4 (el 18347598870374764897) (br 3 4 (el 18347598853194701082) (br 3 5 (el 18347598853194438938) (br 1 5 (br 2 5 (el 18347598870374502625) (bm 59355946748)) (bm 59355938621))))) (br 2 5 (br 3 4 (el 18347598853194700954) (br 1 5 (el 18347598870374502625) (br 3 5 (el 18347598853194438810) (bm 59355942653)))) (br 1 4 (br 3 4 (el 18347598861784832353) (br 1 5 (br 3 5 (el 18347598861784569953) (bm 59490160506)) (bm 59490160317))) (br 1 5 (br 3 5 (el 18347598861784570081) (bm 59490164412)) (bm 59490152253)))))))) (br 2 4 (br 1 2 (el 18347598870307557825) (br 1 4 (el 18347598870374764897) (br 3 5 (br 1 3 (el 18347598861717297569) (br 3 4 (el 18347598853194895419) (br 1 5 (el 18347598861784570081) (br 2 5 (el 18347598853194635354) (br 4 5 (el 18347563668822546524) (bm 244226062519995)))))) (br 2 5 (br 3 4 (el 18347598853194897498) (br 1 5 (el 18347598870374502625) (br 4 5 (el 18347581261008265306) (bm 59355938621)))) (br 1 3 (br 3 4 (el 18347598861717559713) (br 1 5 (br 4 5 (el 18347581269598527649) (bm 59624374138)) (bm 59624373949))) (br 1 5 (br 4 5 (el 18347581269598527713) (bm 59624382139)) (bm 59624369917))))))) (br 3 4 (br 1 3 (el 18347598861717559713) (br 1 4 (el 18347598861784832353) (br 2 5 (br 1 2 (el 18347598870307295681) (br 1 5 (el 18347598870374502625) (br 3 5 (el 18347598853194633275) (br 4 5 (el 18347581261008588860) (bm 244226062519995))))) (br 1 5 (br 3 5 (el 18347598861784570081) (br 4 5 (el 18347581269598527713) (bm 59624370043))) (br 3 5 (br 4 5 (el 18347563668822155323) (bm 59490152253)) (bm 59624369917)))))) (br 1 5 (br 2 5 (el 18347598870374502625) (br 3 5 (el 18347598861784570081) (br 4 5 (el 18347581269598527713) (bm 7397424957)))) (br 1 2 (br 2 5 (el 18347598870307295681) (br 1 3 (br 3 5 (el 18347598724278344065) (br 1 4 (br 4 5 (el 18347299657115459841) (bm 59758587644)) (bm 59758587644))) (br 1 4 (br 4 5 (el 18347581132092170561) (bm 59758587707)) (bm 59758587644)))) (br 1 3 (br 3 5 (el 18347598861717297569) (br 1 4 (br 4 5 (el 18347581269531124001) (bm 59758591802)) (bm 59758591676))) (br 1 4 (br 4 5 (el 18347581269531124065) (bm 59758595771)) (bm 59758587644)))))))))))) (br 2 3 (br 2 4 (br 0 3 (el 18347598870379086106) (br 1 3 (el 18347598870374893850) (br 0 4 (el 18347598870378955034) (br 1 4 (el 18347598870374762778) (br 3 4 (el 18347598853194701082) (br 3 5 (el 18347598853194438938) (br 4 5 (el 18347581261008265498) (br 0 5 (br 0 2 (el 18347598870378746064) (br 2 5 (el 18347598870378692634) (br 1 2 (br 1 5 (el 18347598870382887113) (bm 59775360764)) (bm 59775360764)))) (br 1 5 (br 1 2 (el 18347598870374535369) (br 2 5 (el 18347598870374500378) (bm 59775360764))) (bm 7397162813)))))))))) (br 2 5 (br 0 3 (el 18347598870379085978) (br 1 3 (el 18347598870374893722) (br 3 4 (el 18347598853194700954) (br 0 5 (el 18347598870378692762) (br 1 5 (el 18347598870374500506) (br 3 5 (el 18347598853194438810) (br 4 5 (el 18347581261008593050) (br 0 2 (br 0 4 (el 18347598870378484048) (br 1 2 (br 1 4 (el 18347598593928380745) (bm 59641143037)) (bm 59641143037))) (br 1 2 (br 1 4 (el 18347598870374273353) (bm 59641143037)) (bm 59641143037)))))))))) (br 0 2 (br 0 3 (el 18347598870379008400) (br 1 3 (el 18347598870374893970) (br 0 4 (el 18347598870379008336) (br 3 4 (el 18347598853060483474) (br 0 5 (el 18347598870379008208) (br 3 5 (el 18347598853060221330) (br 1 2 (br 1 4 (el 18347598595002122569) (br 1 5 (el 18347598595002122441) (bm 59775360764))) (br 1 4 (br 1 5 (br 4 5 (el 18347581269598232681) (bm 59355942779)) (bm 59641143037)) (bm 59775360764))))))))) (br 1 2 (br 0 3 (el 18347598870379086218) (br 1 3 (el 18347598870374797705) (br 1 4 (el 18347598870374797641) (br 3 4 (el 18347598853194701194) (br 1 5 (el 18347598870374797513) (br 3 5 (el 18347598853194439050) (br 0 4 (br 0 5 (br 4 5 (el 18347581269602443376) (bm 59340217979)) (bm 59641143037)) (bm 59775360764)))))))) (br 0 4 (br 0 3 (el 18347598870379090224) (br 3 4 (el 18347598861789020443) (br 1 5 (br 1 3 (el 18347598870374895785) (br 1 4 (el 18347598870383149161) (br 0 5 (el 18347598870382889072) (br 3 5 (el 18347598861784565915) (br 4 5 (el 18347581269598521460) (bm 244363769908858)))))) (br 0 5 (br 1 4 (el 18347598870383151216) (br 3 5 (el 18347598861788764272) (br 4 5 (el 18347581269602443376) (bm 59474435706)))) (br 1 3 (br 1 4 (el 18347598870383149353) (br 3 5 (br 4 5 (el 18347563668822548619) (bm 59657920189)) (bm 59657920189))) (br 3 5 (br 4 5 (el 18347563668822548635) (bm 59657920189)) (bm 59657920189))))))) (br 1 4 (br 1 3 (el 18347598870374895913) (br 3 4 (el 18347598861784828187) (br 0 5 (br 0 3 (el 18347598870379090096) (br 1 5 (el 18347598870382887017) (br 3 5 (el 18347598861788758171) (br 4 5 (el 18347581269602713708) (bm 244363769908858))))) (br 1 5 (br 3 5 (el 18347598861784569961) (br 4 5 (el 18347581269598232681) (bm 59490160506))) (br 3 5 (br 4 5 (el 18347563668822548635) (bm 59657920189)) (bm 59657920189)))))) (br 3 5 (br 0 5 (el 18347598861788758171) (br 1 5 (el 18347598861784565915) (br 4 5 (el 18347563668822548635) (bm 7397158717)))) (br 0 3 (br 0 5 (el 18347598870379090096) (br 1 3 (br 1 5 (el 18347597839322693801) (br 3 4 (br 4 5 (el 18346437218891063555) (bm 59792137916)) (bm 59792137916))) (br 3 4 (br 4 5 (el 18347563668553720083) (bm 59792137916)) (bm 59792137916)))) (br 1 3 (br 1 5 (el 18347598870374895785) (br 3 4 (br 4 5 (el 18347563668822155531) (bm 59792137916)) (bm 59792137916))) (br 3 4 (br 4 5 (el 18347563668822155547) (bm 59792137916)) (bm 59792137916))))))))))) (br 4 5 (br 0 4 (br 0 2 (el 18347581269602443600) (br 0 3 (el 18347581269602443568) (br 0 5 (el 18347581269602443376) (br 1 5 (el 18347581269598521460) (br 2 5 (el 18347581261008588916) (br 3 5 (el 18347563668822546548) (br 1 2 (br 1 4 (el 18347598870383149385) (br 2 4 (el 18347598870378955082) (br 1 3 (br 3 4 (el 18347598861784668553) (bm 59624369917)) (bm 59641143037)))) (br 1 3 (br 1 4 (el 18347598870383149353) (br 3 4 (el 18347598861789020459) (bm 59657920189))) (bm 7397158653))))))))) (br 2 4 (br 0 2 (el 18347581260874047826) (br 1 2 (el 18347581261008265546) (br 0 5 (el 18347581269602713692) (br 1 5 (el 18347581269598521436) (br 2 5 (el 18347581261008265306) (br 3 5 (el 18347563668822546524) (br 1 3 (br 1 4 (el 18347598870374764841) (br 3 4 (el 18347598853194895659) (bm 59657920189))) (br 0 3 (br 3 4 (el 18347598853194895667) (bm 59657920189)) (bm 59607854845))))))))) (br 1 4 (br 1 2 (el 18347581269598232905) (br 1 3 (el 18347581269598232873) (br 0 5 (el 18347581269602713708) (br 1 5 (el 18347581269598232681) (br 2 5 (el 18347581261008588908) (br 3 5 (el 18347563668822546540) (br 0 3 (br 3 4 (el 18347598861784828211) (bm 59608120957)) (bm 59641143037)))))))) (br 3 4 (br 0 3 (el 18347563668553720115) (br 1 3 (el 18347563668822155563) (br 0 5 (el 18347581269602713660) (br 1 5 (el 18347581269598521404) (br 2 5 (el 18347581261008588860) (br 3 5 (el 18347563668822155323) (bm 59641143037))))))) (br 0 2 (br 0 5 (el 18347581269602722000) (br 2 5 (el 18347581261008593106) (br 1 3 (br 1 2 (el 18347598870148465033) (br 0 3 (el 18347598870383282576) (br 1 5 (el 18347581269598527657) (br 3 5 (el 18347563668822548651) (bm 243745160138364))))) (br 1 2 (br 0 3 (el 18347598870148467088) (br 1 5 (el 18347598870148464841) (bm 59775360764))) (br 0 3 (br 3 5 (el 18347598861788617104) (bm 59742338684)) (bm 59775360764)))))) (br 1 2 (br 1 5 (el 18347581269598527689) (br 2 5 (el 18347581261008593098) (br 0 3 (br 1 3 (el 18347598870383280521) (br 0 5 (el 18347581269602721968) (br 3 5 (el 18347563668822548659) (bm 243745160138364)))) (br 1 3 (br 3 5 (el 18347598861784406409) (bm 59758587644)) (bm 59775360764))))) (br 0 3 (br 0 5 (el 18347581269602721968) (br 3 5 (el 18347563668822548659) (br 1 3 (br 1 5 (el 18347598870383280297) (bm 59792137916)) (bm 59792137916)))) (br 1 3 (br 1 5 (el 18347581269598527657) (br 3 5 (el 18347563668822548651) (bm 59792137916))) (bm 7397158652))))))))) t63_0)))
noncomputable def t63 : Tr := t63_1
noncomputable def t64 : Tr := (br 0 1 (el 18347598870383364576) (br 0 2 (el 18347598870383413712) (br 1 2 (el 18347598870383411657) (br 0 3 (el 18347598870383413680) (br 1 3 (el 18347598870383411625) (br 2 3 (el 18347598870379217306) (br 0 4 (el 18347598870383413616) (br 1 4 (el 18347598870383411561) (br 2 4 (el 18347598870379217242) (br 3 4 (el 18347598861789282619) (br 0 5 (el 18347598870383413488) (br 1 5 (el 18347598870383411433) (br 2 5 (el 18347598870379217114) (br 3 5 (el 18347598861789282491) (br 4 5 (el 18347581269603238012) (bm 473418153789))))))))))))))))
theorem up2 : ∀ u, u < 2 → ∀ v, v < 2 → u ≠ v → Nat.testBit 258 (8 * u + v) = true := by decide +kernel
theorem up3 : ∀ u, u < 3 → ∀ v, v < 3 → u ≠ v → Nat.testBit 197894 (8 * u + v) = true := by decide +kernel
theorem up4 : ∀ u, u < 4 → ∀ v, v < 4 → u ≠ v → Nat.testBit 118164750 (8 * u + v) = true := by decide +kernel
theorem up5 : ∀ u, u < 5 → ∀ v, v < 5 → u ≠ v → Nat.testBit 64812162334 (8 * u + v) = true := by decide +kernel
theorem up6 : ∀ u, u < 6 → ∀ v, v < 6 → u ≠ v → Nat.testBit 34287650553150 (8 * u + v) = true := by decide +kernel
theorem c20 : chk 2 0 t20 0 258 = true := by decide +kernel
theorem c30 : chk 3 0 t30 0 197894 = true := by decide +kernel
theorem c31 : chk 3 1 t31 0 197894 = true := by decide +kernel
theorem c40 : chk 4 0 t40 0 118164750 = true := by decide +kernel
theorem c41 : chk 4 1 t41 0 118164750 = true := by decide +kernel
theorem c42 : chk 4 2 t42 0 118164750 = true := by decide +kernel
theorem c50 : chk 5 0 t50 0 64812162334 = true := by decide +kernel
theorem c51 : chk 5 1 t51 0 64812162334 = true := by decide +kernel
theorem c52 : chk 5 2 t52 0 64812162334 = true := by decide +kernel
theorem c53 : chk 5 3 t53 0 64812162334 = true := by decide +kernel
theorem c60 : chk 6 0 t60 0 34287650553150 = true := by decide +kernel
theorem c61 : chk 6 1 t61 0 34287650553150 = true := by decide +kernel
theorem c62 : chk 6 2 t62 0 34287650553150 = true := by decide +kernel
theorem c63 : chk 6 3 t63 0 34287650553150 = true := by decide +kernel
theorem c64 : chk 6 4 t64 0 34287650553150 = true := by decide +kernel
end K67M
set_option linter.all false
namespace K67M
section
variable {n k : Nat} {G : Gr}
theorem el_order {c : Int} (h : ∀ v, v < n → ((qs G n (2 ^ v - 1) v).length : Int) ≤ c) : ∀ j, j ≤ n → El G n c (2 ^ j - 1)
  | 0, _ => .zero
  | j + 1, hj => by
    have e : 2 ^ (j + 1) - 1 = (2 ^ j - 1) ||| 1 <<< j := by
      refine Nat.eq_of_testBit_eq fun i => ?_
      rw [tb_or, Nat.testBit_two_pow_sub_one, Nat.testBit_two_pow_sub_one]
      rw [Bool.eq_iff_iff]
      simp only [decide_eq_true_eq, Bool.or_eq_true]
      omega
    rw [e]
    refine .add (el_order h j (by omega)) hj ?_ (h j hj)
    rw [Nat.testBit_two_pow_sub_one]
    simp
theorem el_all {c : Int} (h : ∀ S v, v < n → ((qs G n S v).length : Int) ≤ c) : El G n c (2 ^ n - 1) := el_order (fun v hv => h _ v hv) n (Nat.le_refl _)
theorem qs_len {S v : Nat} (hv : v < n) : (qs G n S v).length + 1 ≤ n := by
  have h : (v :: qs G n S v).length ≤ (List.range n).length := nodup_sub (List.nodup_cons.mpr ⟨fun z => (mem_qs.mp z).2.2.2 rfl, List.nodup_range.filter _⟩) fun x hx => by
    rcases List.mem_cons.mp hx with e | e
    · rw [e]
      exact List.mem_range.mpr hv
    · exact List.mem_range.mpr (mem_qs.mp e).1
  rw [List.length_range, List.length_cons] at h
  exact h
theorem el_big {c : Int} (h : (n : Int) - 1 ≤ c) : El G n c (2 ^ n - 1) := el_all fun S v hv => by
  have := qs_len (G := G) (S := S) hv
  omega
theorem bram_zero (h : 0 < n) : Bram G n 0 := by
  refine ⟨[[0]], fun b hb => ?_, fun b hb c hc => ?_, fun X hX => ?_⟩
  · rw [List.mem_singleton] at hb
    subst hb
    refine ⟨by simp, fun u hu => ?_, fun X _ u hu v hv => ?_⟩
    · rw [List.mem_singleton] at hu
      omega
    · rw [List.mem_singleton] at hu hv
      rw [hu, hv]
      exact .refl
  · rw [List.mem_singleton] at hb hc
    subst hb hc
    exact ⟨0, by simp, 0, by simp, .inl rfl⟩
  · have e : X = [] := List.eq_nil_of_length_eq_zero (by omega)
    subst e
    exact ⟨[0], by simp, fun _ _ => by simp⟩
theorem con_one {u : Nat} (h : u < n) : Con G n [u] := by
  refine ⟨by simp, fun x hx => ?_, fun X _ x hx y hy => ?_⟩
  · rw [List.mem_singleton] at hx
    omega
  · rw [List.mem_singleton] at hx hy
    rw [hx, hy]
    exact .refl
theorem bram_one (o : Ok n G) {u v : Nat} (g : G u v = true) : Bram G n 1 := by
  have hu := (o.lt g).1
  have hv := (o.lt g).2
  have ne : u ≠ v := fun e => by
    subst e
    rw [o.irr] at g
    cases g
  refine ⟨[[u], [v]], fun b hb => ?_, fun b hb c hc => ?_, fun X hX => ?_⟩
  · rcases List.mem_cons.mp hb with e | e
    · rw [e]
      exact con_one hu
    · rw [List.mem_singleton] at e
      rw [e]
      exact con_one hv
  · have key : ∀ b ∈ [[u], [v]], b = [u] ∨ b = [v] := fun b hb => by simpa using hb
    rcases key b hb with e | e <;> rcases key c hc with e' | e' <;> subst e <;> subst e'
    · exact ⟨u, by simp, u, by simp, .inl rfl⟩
    · exact ⟨u, by simp, v, by simp, .inr g⟩
    · exact ⟨v, by simp, u, by simp, .inr (o.sym g)⟩
    · exact ⟨v, by simp, v, by simp, .inl rfl⟩
  · by_cases hx : u ∈ X
    · refine ⟨[v], by simp, fun x hxv hxX => ?_⟩
      rw [List.mem_singleton] at hxv
      subst hxv
      match X, hX with
      | [], _ => exact absurd hx (by simp)
      | [a], _ =>
        rw [List.mem_singleton] at hx hxX
        omega
      | a :: b :: r, hX =>
        rw [List.length_cons, List.length_cons] at hX
        omega
    · exact ⟨[u], by simp, fun x hxu => by
        rw [List.mem_singleton] at hxu
        rw [hxu]
        exact hx⟩
theorem via_nb {S v u : Nat} (h : Via G S v u) : ∃ w x, G w x = true := by
  cases h with
  | nb g => exact ⟨_, _, g⟩
  | step _ _ g => exact ⟨_, _, g⟩
theorem el_empty (h : ∀ u v, G u v = false) : El G n 0 (2 ^ n - 1) := el_all fun S v hv => by
  have e : qs G n S v = [] := List.eq_nil_iff_forall_not_mem.mpr fun u hu => by
    obtain ⟨w, x, g⟩ := via_nb (mem_qs.mp hu).2.1
    rw [h] at g
    cases g
  rw [e]
  exact Int.le_refl _
/-- a path -/
theorem el_path (h : ∀ u v, G u v = true → u = v + 1 ∨ v = u + 1) : El G n 1 (2 ^ n - 1) := el_order (fun v hv => by
  have hl : (qs G n (2 ^ v - 1) v).length ≤ [v + 1].length := nodup_sub (List.nodup_range.filter _) fun u hu => by
    obtain ⟨h1, h2, h3, h4⟩ := mem_qs.mp hu
    have key : ∀ u, Via G (2 ^ v - 1) v u → u ≤ v + 1 := fun u y => by
      induction y with
      | nb g =>
        have := h _ _ g
        omega
      | step _ s g _ =>
        rw [Nat.testBit_two_pow_sub_one] at s
        have := h _ _ g
        simp at s
        omega
    have := key u h2
    rw [Nat.testBit_two_pow_sub_one] at h3
    simp at h3
    rw [List.mem_singleton]
    omega
  have : [v + 1].length = 1 := rfl
  omega) n (Nat.le_refl _)
theorem up_of (o : Ok n G) {hi : Nat} (h : ∀ u, u < n → ∀ v, v < n → u ≠ v → Nat.testBit hi (8 * u + v) = true) : Up G hi := fun u v g =>
  h u (o.lt g).1 v (o.lt g).2 fun e => by
    subst e
    rw [o.irr] at g
    cases g
theorem dn_zero : Dn G 0 := fun u v _ h => by simp at h
theorem dual (o : Ok n G) (h6 : n ≤ 6) (k : Nat) : El G n ((k : Int) - 1) (2 ^ n - 1) ∨ Bram G n k := by
  by_cases hk : n ≤ k
  · exact .inl (el_big (by omega))
  · cases k with
    | zero => exact .inr (bram_zero (by omega))
    | succ c =>
      have e : ((c + 1 : Nat) : Int) - 1 = (c : Int) := by omega
      rw [e]
      rcases (show n = 2 ∨ n = 3 ∨ n = 4 ∨ n = 5 ∨ n = 6 by omega) with q | q | q | q | q
      · subst q
        rcases (show c = 0 by omega) with q
        subst q
        exact chk_ok o (by decide) _ _ _ c20 dn_zero (up_of o up2)
      · subst q
        rcases (show c = 0 ∨ c = 1 by omega) with q | q <;> subst q
        · exact chk_ok o (by decide) _ _ _ c30 dn_zero (up_of o up3)
        · exact chk_ok o (by decide) _ _ _ c31 dn_zero (up_of o up3)
      · subst q
        rcases (show c = 0 ∨ c = 1 ∨ c = 2 by omega) with q | q | q <;> subst q
        · exact chk_ok o (by decide) _ _ _ c40 dn_zero (up_of o up4)
        · exact chk_ok o (by decide) _ _ _ c41 dn_zero (up_of o up4)
        · exact chk_ok o (by decide) _ _ _ c42 dn_zero (up_of o up4)
      · subst q
        rcases (show c = 0 ∨ c = 1 ∨ c = 2 ∨ c = 3 by omega) with q | q | q | q <;> subst q
        · exact chk_ok o (by decide) _ _ _ c50 dn_zero (up_of o up5)
        · exact chk_ok o (by decide) _ _ _ c51 dn_zero (up_of o up5)
        · exact chk_ok o (by decide) _ _ _ c52 dn_zero (up_of o up5)
        · exact chk_ok o (by decide) _ _ _ c53 dn_zero (up_of o up5)
      · subst q
        rcases (show c = 0 ∨ c = 1 ∨ c = 2 ∨ c = 3 ∨ c = 4 by omega) with q | q | q | q | q <;> subst q
        · exact chk_ok o (by decide) _ _ _ c60 dn_zero (up_of o up6)
        · exact chk_ok o (by decide) _ _ _ c61 dn_zero (up_of o up6)
        · exact chk_ok o (by decide) _ _ _ c62 dn_zero (up_of o up6)
        · exact chk_ok o (by decide) _ _ _ c63 dn_zero (up_of o up6)
        · exact chk_ok o (by decide) _ _ _ c64 dn_zero (up_of o up6)
/-- the two reckonings agree -/
theorem gf_iff (o : Ok n G) (h6 : n ≤ 6) (k : Nat) : (∃ p, Gf G n k p) ↔ ¬ El G n ((k : Int) - 1) (2 ^ n - 1) := by
  constructor
  · rintro ⟨p, h⟩ e
    exact el_none o (by omega) e p h
  · intro h
    rcases dual o h6 k with e | b
    · exact absurd e h
    · exact bram_gf o b
theorem gf_zero (o : Ok n G) (h : 0 < n) : ∃ p, Gf G n 0 p := bram_gf o (bram_zero h)
theorem gf_one (o : Ok n G) : (∃ p, Gf G n 1 p) ↔ ∃ u v, G u v = true := by
  constructor
  · rintro ⟨p, h⟩
    refine Classical.byContradiction fun q => el_none o (c := 0) (by decide) (el_empty fun u v => ?_) p h
    cases e : G u v with
    | false => rfl
    | true => exact absurd ⟨u, v, e⟩ q
  · rintro ⟨u, v, g⟩
    exact bram_gf o (bram_one o g)
theorem gf_path (o : Ok n G) (h : ∀ u v, G u v = true → u = v + 1 ∨ v = u + 1) (p : Pos) : ¬ Gf G n 2 p := el_none o (by decide) (el_path h) p
end
end K67M
set_option Elab.async false
set_option linter.all false
set_option maxRecDepth 100000
set_option maxHeartbeats 2000000
/-! rules of our own: setdefault of a dict with tuple keys; sorted of a tuple; the order of nested tuples -/
namespace K67
open PySem PySem.Spec PyProof.Rows L2
/-! ### d.setdefault(t, z), the keys tuples -/
section
variable {X : Cx} {pins : List (Addr × Obj)} {σ : L2.St} {H : Hp} {s : Shared} {A : Around} {E : Value → Shared → Prop}
theorem setdef_tup {a b : Addr} {r : Value} {z : V} {ks : List Key} {kvs : List (List Key × V)} {Q : Value → Shared → Prop} (hu : A.units + 1 < cLine) (I : Inv X pins σ H s) (ha : H a = some (.dT kvs)) (hb : H b = some (.tup (ks.map kV)))
    (rz : RelV z r) (hl : kvs.length < sizeLine) (there : ∀ v, valV kvs ks = some v → ∀ u s', Inv X pins σ H s' → RelV v u → Q u s')
    (new : valV kvs ks = none → ∀ s', Inv X pins σ (upd H a (.dT (putK kvs ks z))) s' → Q r s') : wpAny (model X.prog X.w) A (call (.builtin "dict.setdefault") [.ref a, .ref b, r]) Q E s := by
  obtain ⟨hz, hd, xs, rel, dd⟩ := dt_of I.hok ha
  have hx : xs.length ≤ sizeLine := (Paired.length rel) ▸ hz
  have rv := rel.val ks
  refine call_setdefault_heap (hsz := hx) (tupleKind_room_in1 hu) (key_of I.hok hb) hd dd (fun p hp => ?_) fun hn h' dd' same => ?_
  · rw [hp] at rv
    cases q : valV kvs ks with
    | none =>
      rw [q] at rv
      exact False.elim rv
    | some v =>
      rw [q] at rv
      exact there v q p.2 _ (I.tok _) rv
  · rw [hn] at rv
    cases q : valV kvs ks with
    | some v =>
      rw [q] at rv
      exact False.elim rv
    | none =>
      obtain ⟨ob, es, ep, g1, g2, g3, g4, _, g5⟩ := dd'
      have hl2 : (putK kvs ks z).length ≤ sizeLine := by
        have := length_putK kvs ks z
        omega
      exact new q _ (d_write I (by rw [ha]; trivial) same ⟨ob, g1⟩ ⟨hl2, hd, _, (rel.put ks hb rz).keeps fun c ys ec => (by rw [upd_ne (ne_of ec ha fun w => nomatch w)]; exact ec), ob, es, ep, g1, g2, g3, g4, g5⟩)
end
def tSetDef (td ty tx : TE) : TE := fun σ H Q => td σ H fun x H1 => ∃ a, x = .ref a ∧ IsD H1 a ∧ ty σ H1 fun y H2 => tx σ H2 fun z H3 => ∃ (kvs : List (List Key × V)) (ks : List Key) (b : Addr), H3 a = some (.dT kvs) ∧ y = .ref b ∧
  H3 b = some (.tup (ks.map kV)) ∧ kvs.length < sizeLine ∧ (∀ v, valV kvs ks = some v → Q v H3) ∧ (valV kvs ks = none → Q z (upd H3 a (.dT (putK kvs ks z))))
section
variable {X : Cx} {o e f : Expr} {td ty tx : TE} {apos cpos : Pos}
theorem pe_setdef (hu : X.A.units + 1 < cLine) (ho : PE X o td) (he : PE X e ty) (hf : PE X f tx) (m : M2 X o "setdefault" apos e f cpos) : PE X (.Call (.Attribute o "setdefault" apos) [e, f] [] cpos) (tSetDef td ty tx) := by
  constructor
  intro pins s σ H Q I h
  refine wpAny_Call_method m.base m.few m.line PySem.F.plainAttrs_dict PySem.F.slot_dict_setdefault PySem.F.type_dict_setdefault (thn (ho.run pins s σ H _ I h) fun u s1 hh => ?_)
  obtain ⟨x, H1, I1, rx, a, ex, d, q1⟩ := hh
  subst ex
  cases (show u = Value.ref a from rx)
  obtain ⟨t1, t2, _⟩ := isD_at I1 d
  refine ⟨t1, t2, ?_⟩
  rw [m.trees]
  refine Calls.callWith_builtin rfl (Calls.evalArgs_plain (Calls.spliced_cons (thn (he.run pins s1 σ H1 _ I1 q1) fun iv s2 hh2 => ?_)))
  obtain ⟨y, H2, I2, ry, q2⟩ := hh2
  refine Calls.spliced_cons (thn (hf.run pins s2 σ H2 _ I2 q2) fun fv s3 hh3 => Calls.spliced_nil ?_)
  obtain ⟨z, H3, I3, rz, kvs, ks, b, ea, ey, eb, hl, q3, q4⟩ := hh3
  subst ey
  cases (show iv = Value.ref b from ry)
  exact setdef_tup hu I3 ea eb rz hl (fun v hv w' s4 I4 rw' => ⟨v, _, I4, rw', q3 v hv⟩) fun hn s4 I4 => ⟨z, _, I4, rz, q4 hn⟩
end
/-! ### sorted of a tuple of ints -/
section
variable {X : Cx} {pins : List (Addr × Obj)} {σ : L2.St} {H : Hp} {s : Shared}
theorem sorted_tupI {t : Addr} {ns : List Int} {Q : VK} (I : Inv X pins σ H s) (hs : SqT X.K H t (ns.map V.int)) (q : ∀ (ms : List Int) (p : Addr), ms.Perm ns → ms.Pairwise (· ≤ ·) → H p = none → Q (.ref p) (upd H p (.lst (ms.map V.int)))) :
    wpAny (model X.prog X.w) X.A (call (.builtin "sorted") [.ref t]) (EP X pins σ Q) X.xe s := by
  obtain ⟨its, rv, ht, hz⟩ := I.tuple hs
  have hi := rv.ints
  obtain ⟨o, ho, hc, n, hd⟩ := id ht
  have hz' : its.length ≤ sizeLine := by
    rw [← rv.length]
    exact hz
  refine Calls.call_function_entry kind_sorted plain_sorted entry_sorted (args_sorted1 _) ?_
  unfold Builtin.«sorted»
  refine wpAny_bind (m := checkCount "sorted" 1 1 _) (wpAny_pure (wpAny_bind (wpAny_collect_seq t (.inr rfl) ho hc hd (fun h' kp => ?_) (by rw [List.size_toArray]; exact hz'))))
  have I1 : Inv X pins σ H { s with heap := h' } := I.kept (t' := s.toks) kp
  refine wpAny_bind (wpAny_newList ?_ (by simpa using hz'))
  have hob : (h'.push { cls := .type "list", data := .seq its.toArray.toList.toArray }).get? h'.objs.size = some (seqObj "list" its.toArray 0) := Heap.get?_push_size _ rfl
  refine wpAny_bind (wpAny_holding (wpAny_call_entry slot_list_sort ⟨_, hob, rfl⟩ entry_list_sort (SrtO.list_sort_ord SrtO.swo_int hob hz' (fun h2 => SrtO.ints_sortable hi h2) fun out h1 h2 => ⟨_, rfl, ?_⟩) (args_list_sort _)))
  refine wpAny_pure ⟨_, rfl, ?_⟩
  obtain ⟨k1, k2, k3⟩ := SrtO.ints_out hi h1 h2
  obtain ⟨ep, he'⟩ := sortedHeap_at (out := out.toArray) hob
  have hl2 : ((out.map SrtO.iv).map V.int).length ≤ sizeLine := by
    rw [List.length_map, k2.length_eq]
    rw [List.length_map] at hz
    exact hz
  refine ⟨.ref h'.objs.size, upd H h'.objs.size (.lst ((out.map SrtO.iv).map V.int)), I1.laid (t' := s.toks) (fun b u e => ?_) (Nat.le_refl _) ⟨hl2, out, ep, vals_of_ints k1, he'⟩, rfl, q _ _ k2 k3 (I1.hok.fresh (Nat.le_refl _))⟩
  have hlt : b < h'.objs.size := Heap.lt_size e
  rw [sortedHeap_old (Nat.ne_of_lt hlt) (by rw [size_push']; exact Nat.lt_succ_of_lt hlt)]
  exact Heap.get?_push_of_some _ e
def rSortTI (K : PySem.W.Frag) : List V → Hp → VK → Prop := fun vs H Q => ∃ (t : Addr) (ns : List Int), vs = [V.ref t] ∧ SqT K H t (ns.map V.int) ∧
  ∀ (ms : List Int) (p : Addr), ms.Perm ns → ms.Pairwise (· ≤ ·) → H p = none → Q (.ref p) (upd H p (.lst (ms.map V.int)))
theorem cr_sortTI : CallR X (.builtin "sorted") (rSortTI X.K) := by
  intro pins s σ H vs us Q I r h
  obtain ⟨t, ns, rfl, hs, q⟩ := h
  rw [Vals.ref1 r]
  exact sorted_tupI I hs q
end
/-! ### sorted of a list of data, any number; <= of data -/
open PySem.W in
def rSortD {β : Type} (enc : β → PyData) (K : PySem.W.Frag) : List V → Hp → VK → Prop := fun vs H Q => ∃ (a : Addr) (zs : List (V × β)), vs = [V.ref a] ∧ SqL K H a (zs.map (·.1)) ∧ (∀ z ∈ zs, Dp K H z.1 (enc z.2)) ∧
  AllAlike (zs.map fun z => enc z.2) ∧ Sortable (zs.map fun z => enc z.2) ∧ (∀ z ∈ zs, (enc z.2).depth ≤ 40) ∧ ∀ p, H p = none → Q (.ref p) (upd H p (.lst ((zs.mergeSort (dataLe false fun z => enc z.2)).map (·.1))))
theorem each_vals {β : Type} : ∀ {zs : List (V × β)} {us : List Value}, Vals (zs.map (·.1)) us → PySem.W.EachIs (fun u (z : V × β) => RelV z.1 u) us zs
  | [], _, .nil => .nil
  | z :: zs, _, .cons r t => .cons r (each_vals t)
theorem vals_each {β : Type} : ∀ {zs : List (V × β)} {us : List Value}, PySem.W.EachIs (fun u (z : V × β) => RelV z.1 u) us zs → Vals (zs.map (·.1)) us
  | _, _, .nil => .nil
  | _, _, .cons r t => .cons r (vals_each t)
section
variable {X : Cx}
theorem cr_sortD {β : Type} (enc : β → PyData) : CallR X (.builtin "sorted") (fun vs H Q => (X.A.units + 64 < cLine) ∧ rSortD enc X.K vs H Q) := by
  intro pins s σ H vs us Q I r h
  obtain ⟨hu, a, zs, rfl, hs, hD, hal, hsr, hdep, q⟩ := h
  obtain ⟨its, rv, hl, hz⟩ := I.list hs
  rw [Vals.ref1 r]
  have e := each_vals rv
  have er : PySem.W.EachIs (fun v (z : V × β) => ∃ as, Reads s.heap v (enc z.2) as) its zs := (PySem.W.each_mem e).mono fun v z hv => Dp.reads I _ _ _ (hD z hv.2) hv.1
  rw [List.length_map] at hz
  refine PySem.W.sorted_data (R := fun u (z : V × β) => RelV z.1 u) (enc := fun z : V × β => enc z.2) hl.isList e er hal hsr hz (fun b hb => ?_) fun out ho eo => ?_
  · have := hdep b hb
    omega
  · obtain ⟨ep, he'⟩ := sortedAll_at s.heap its out.toArray
    have hv := vals_each eo
    refine ⟨.ref _, upd H (s.heap.objs.size + 1) (.lst _), I.laid (t' := s.toks) (fun _ _ => sortedAll_old) (Nat.le_succ _) ⟨?_, out, ep, hv, he'⟩, rfl, q _ (I.hok.fresh (Nat.le_succ _))⟩
    rw [hv.length, ho]
    exact hz
/-- x <= y of data -/
def rLeD (K : PySem.W.Frag) : R2 := fun x y H Q => ∃ d e, Dp K H x d ∧ Dp K H y e ∧ PySem.W.alike d e = true ∧ d ≠ .none ∧ d.depth ≤ 40 ∧ Q (.bl (!PySem.W.dataLt e d)) H
theorem op_leD (hu : X.A.units + 64 < cLine) : OpR X (compareOp .LtE) (rLeD X.K) := by
  intro pins s σ H x y v u Q I rx ry h
  obtain ⟨d, e, hd, he, hal, hn, hdep, q⟩ := h
  obtain ⟨as, r1⟩ := Dp.reads I d x v hd rx
  obtain ⟨bs, r2⟩ := Dp.reads I e y u he ry
  have hm : X.A.units + min d.depth e.depth < cLine := by
    have := Nat.min_le_left d.depth e.depth
    omega
  have z : wpAny (model X.prog X.w) X.A (compareOp .LtE v u) (EP X pins σ Q) X.xe s := PySem.W.rcLe_alike d e X.A s v u as bs r1 r2 hal hn hm X.prog X.w X.xe (EP X pins σ Q) ⟨.bl _, H, I, rfl, q⟩
  exact z
end
end K67
set_option Elab.async false
set_option linter.all false
set_option maxRecDepth 100000
set_option maxHeartbeats 2000000
namespace K67
open PySem PySem.Spec PyProof.Rows L2
open K67M (Gr comp IsPos Holds Gf Ok Reach srt ins del)
/-! ### defs of the text, promises by name -/
structure Df (K : PySem.W.Frag) (mg : Str → Option Value) (x : Str) (i : Nat) : Prop where
  ex : ∃ f fd, FunD K x x (defArgs (top i)) (defBody (top i)) (defScope (top i)) [] [] f fd ∧ mg x = some (.ref f)
structure Cal (P : Program) (w : World) (K : PySem.W.Frag) (mg : Str → Option Value) (base : Heap) (k : Nat) (x : Str) (sp : Sp) : Prop where
  ex : ∃ f fd ps, FnOk P w K mg base CX0 k f fd ps sp ∧ mg x = some (.ref f) ∧ PySem.W.keepIn K (.ref f) = true ∧ Binds K fd ps []
section
variable {P : Program} {w : World} {K : PySem.W.Frag} {mg : Str → Option Value} {base : Heap}
theorem cal_mk {x : Str} {i k : Nat} {N ps : List Str} {sp : Sp} (D : Df K mg x i) (S : FnScope N ps (defScope (top i)))
    (bd : ∀ (kV doc pm : Value) (an : Option Addr) (cdv ct : Value) (us : List Value), us.length = ps.length → bindArgs (PySem.W.fnOf x x (defArgs (top i)) (defBody (top i)) (defScope (top i)) .none kV doc pm an cdv ct) ⟨us, []⟩ = pure (ps.zip us))
    (len : ∀ vs H Q E, sp vs H Q E → vs.length = ps.length)
    (hbody : ∀ (f : Addr) (cdv : Value) (A : Around) (outer : List Env) (s : Shared) (H : Hp) (vs : List V) (Q : VK) (E : XK), Room k (A.deeper (envOfC x (defScope (top i)) s.heap.objs.size f cdv)) → sp vs H Q E →
      ∃ t, PSs (cxOf CX0 P w K mg base N x (defScope (top i)) f cdv A outer s H E).nox (defBody (top i)) t ∧ t { nx := fun _ H' => Q .non H', rt := Q } (start N vs) H) : Cal P w K mg base (k + 1) x sp := by
  obtain ⟨f, fd, F, g⟩ := D.ex
  refine ⟨f, fd, ps, F.ok S len fun cdv A outer s H vs Q E hr h => ?_, g, F.kp, F.bindsN bd⟩
  obtain ⟨t, a, b⟩ := hbody f cdv A outer s H vs Q E hr h
  exact ⟨t, a.nox, b⟩
theorem Cal.mono {j k : Nat} {x : Str} {sp : Sp} (c : Cal P w K mg base j x sp) (h : j ≤ k) : Cal P w K mg base k x sp := by
  obtain ⟨f, fd, ps, F, r⟩ := c.ex
  exact ⟨f, fd, ps, F.mono h, r⟩
theorem Cal.imp {k : Nat} {x : Str} {sp sp' : Sp} (c : Cal P w K mg base k x sp) (h : ∀ vs H Q E, sp' vs H Q E → sp vs H Q E) : Cal P w K mg base k x sp' := by
  obtain ⟨f, fd, ps, F, r⟩ := c.ex
  exact ⟨f, fd, ps, F.imp h, r⟩
structure Mak (P : Program) (w : World) (K : PySem.W.Frag) (mg : Str → Option Value) (base : Heap) (k : Nat) (x : Str) (C : Addr) (sp : Sp) : Prop where
  ex : ∃ f fd ps, Mk K C f ∧ FnOk P w K mg base CX0 k f fd ps sp ∧ mg x = some (.ref C) ∧ Binds K fd ps []
end
section
variable {X : Cx} {k j : Nat} {C : Addr} {x : Str} {sp : Sp} {p pos : Pos} {e : Expr} {es : List Expr} {t : TA}
theorem pe_c {p pos : PySem.Pos} (c : Cal X.prog X.w X.K X.mg X.base k x sp) (hr : Room j X.A) (hk : k ≤ j) (hg : Gl X x) (ha : PA X (e :: es) t)
    (hdb : (x == ("__debug__" : Str)) = false := by decide) (he : starEach (e :: es) X.env = (false, eval e X.env) :: starEach es X.env := by rfl) (hpl : (backTo pos (starEach es X.env)).any (·.1) = false := by rfl) :
    PE X (.Call (.Name x p) (e :: es) [] pos) (tCall sp [] E0 t) := by
  obtain ⟨f, fd, ps, F, hm, kp, b⟩ := c.ex
  exact pe_call F (hr.mono hk) hg hm kp b .nil pass0 ha hdb he hpl
theorem pe_mk {p pos : PySem.Pos} (c : Mak X.prog X.w X.K X.mg X.base k x C sp) (hr : Room j X.A) (hk : k + 1 ≤ j) (hg : Gl X x) (ha : PA X (e :: es) t)
    (hdb : (x == ("__debug__" : Str)) = false := by decide) (he : starEach (e :: es) X.env = (false, eval e X.env) :: starEach es X.env := by rfl) (hpl : (backTo pos (starEach es X.env)).any (·.1) = false := by rfl) :
    PE X (.Call (.Name x p) (e :: es) [] pos) (tMake C sp [] E0 t) := by
  obtain ⟨f, fd, ps, M, F, hm, b⟩ := c.ex
  exact pe_make M F (hr.mono hk) hg hm b .nil pass0 ha hdb he hpl
/-- a whole number of the module -/
theorem pe_gi {pos : PySem.Pos} {i : Int} (h : ∃ t, X.mg x = some (.int i t)) (hg : Gl X x := by rfl) (hd : (x == ("__debug__" : Str)) = false := by decide) : PE X (.Name x pos) (tC (.int i)) := by
  obtain ⟨t, e⟩ := h
  exact pe_glob hg e ⟨t, rfl⟩ hd
end
/-! ### what the text's top has written -/
structure Txt (K : PySem.W.Frag) (mg : Str → Option Value) (C CT CB : Addr) : Prop where
  zisinstance : mg "isinstance" = none
  zint : mg "int" = none
  zbool : mg "bool" = none
  zlist : mg "list" = none
  ztuple : mg "tuple" = none
  zlen : mg "len" = none
  zrange : mg "range" = none
  zsorted : mg "sorted" = none
  zmin : mg "min" = none
  zmax : mg "max" = none
  zall : mg "all" = none
  zstr : mg "str" = none
  iMOST : ∃ t, mg "MOST" = some (.int 40 t)
  iSEARCHERS : ∃ t, mg "SEARCHERS" = some (.int 9 t)
  iSMALL : ∃ t, mg "SMALL" = some (.int 8 t)
  cl : Cls K C
  nNodes : NoAttr K C "nodes"
  nEdges : NoAttr K C "edges"
  nLinks : NoAttr K C "links"
  gGraph : mg "Graph" = some (.ref C)
  gTooLarge : mg "TooLarge" = some (.ref CT)
  gBadArgument : mg "BadArgument" = some (.ref CB)
  xT : PySem.W.excIn K CT He.veBase "ValueError.__new__" = true
  kT : PySem.W.keepIn K (.ref CT) = true
  bT : PySem.W.subIn K (.ref CT) (.type "BaseException") = some true
  tT : PySem.W.typeIn K (.ref CT) = some (.type "type")
  eT : PySem.W.exmOne K (.ref CT) (.ref CT) = some true
  excC : ExcC K CT
  isB : PySem.W.kitOne K (.ref CT) (.ref CB) = some false
/-! ### data in the heap -/
abbrev Ex := Evl.Ex
def nI (n : Nat) : V := .int (n : Int)
def nL (l : List Nat) : List V := l.map nI
def TupN (H : Hp) (v : V) (l : List Nat) : Prop := ∃ a, v = .ref a ∧ H a = some (.tup (nL l))
def LstN (H : Hp) (v : V) (l : List Nat) : Prop := ∃ a, v = .ref a ∧ H a = some (.lst (nL l))
def PosV (H : Hp) (v : V) (p : K67M.Pos) : Prop := ∃ q a b, v = .ref q ∧ H q = some (.tup [.ref a, .ref b]) ∧ H a = some (.tup (nL p.1)) ∧ H b = some (.tup (nL p.2))
def PairV (H : Hp) (v : V) (e : Nat × Nat) : Prop := ∃ q, v = .ref q ∧ H q = some (.tup [nI e.1, nI e.2])
/-- a list of things -/
def LOf {α : Type} (T : Hp → V → α → Prop) (H : Hp) (a : Addr) (ds : List α) : Prop := ∃ xs, H a = some (.lst xs) ∧ Paired (T H) xs ds
/-- tuples stay -/
def Tm (H H' : Hp) : Prop := ∀ a xs, H a = some (.tup xs) → H' a = some (.tup xs)
theorem Tm.of {H H' : Hp} (e : Ex H H') : Tm H H' := fun a xs h => e a _ h
theorem Tm.refl (H : Hp) : Tm H H := fun _ _ h => h
theorem Tm.trans {H H1 H2 : Hp} (a : Tm H H1) (b : Tm H1 H2) : Tm H H2 := fun x o h => b x o (a x o h)
theorem Tm.upd {H : Hp} {a : Addr} {o : HO} (h : ∀ xs, H a ≠ some (.tup xs)) : Tm H (upd H a o) := fun b xs e => by
  have : b ≠ a := fun z => h xs (z ▸ e)
  rw [upd_ne this]
  exact e
theorem Tm.updL {H : Hp} {a : Addr} {o : HO} {ys : List V} (h : H a = some (.lst ys)) : Tm H (L2.upd H a o) := Tm.upd fun xs e => by
  rw [h] at e
  cases e
theorem Tm.updD {H : Hp} {a : Addr} {o : HO} {kvs : List (List Key × V)} (h : H a = some (.dT kvs)) : Tm H (L2.upd H a o) := Tm.upd fun xs e => by
  rw [h] at e
  cases e
theorem TupN.tm {H H' : Hp} {v : V} {l : List Nat} (e : Tm H H') (h : TupN H v l) : TupN H' v l := by
  obtain ⟨a, e1, e2⟩ := h
  exact ⟨a, e1, e _ _ e2⟩
theorem PosV.tm {H H' : Hp} {v : V} {p : K67M.Pos} (e : Tm H H') (h : PosV H v p) : PosV H' v p := by
  obtain ⟨q, a, b, e1, e2, e3, e4⟩ := h
  exact ⟨q, a, b, e1, e _ _ e2, e _ _ e3, e _ _ e4⟩
theorem PairV.tm {H H' : Hp} {v : V} {p : Nat × Nat} (e : Tm H H') (h : PairV H v p) : PairV H' v p := by
  obtain ⟨q, e1, e2⟩ := h
  exact ⟨q, e1, e _ _ e2⟩
theorem LstN.ex {H H' : Hp} {v : V} {l : List Nat} (e : Ex H H') (h : LstN H v l) : LstN H' v l := by
  obtain ⟨a, e1, e2⟩ := h
  exact ⟨a, e1, e _ _ e2⟩
theorem LOf.ex {α : Type} {T : Hp → V → α → Prop} (m : ∀ {H H' v d}, Ex H H' → T H v d → T H' v d) {H H' : Hp} {a : Addr} {ds : List α} (e : Ex H H') (h : LOf T H a ds) : LOf T H' a ds := by
  obtain ⟨xs, h1, h2⟩ := h
  exact ⟨xs, e _ _ h1, L2.Paired.mapP h2 fun _ _ z => m e z⟩
/-! lists that go together -/
section
variable {α β : Type} {R : α → β → Prop}
theorem paired_app : ∀ {xs : List α} {ys : List β} {xs' : List α} {ys' : List β}, Paired R xs ys → Paired R xs' ys' → Paired R (xs ++ xs') (ys ++ ys')
  | _, _, _, _, .nil, s => s
  | _, _, _, _, .cons r t, s => .cons r (paired_app t s)
theorem paired_one {x : α} {y : β} (h : R x y) : Paired R [x] [y] := .cons h .nil
theorem paired_get : ∀ {xs : List α} {ys : List β} {i : Nat} {x : α}, Paired R xs ys → xs[i]? = some x → ∃ y, ys[i]? = some y ∧ R x y
  | _, _, _, _, .nil, e => by simp at e
  | _, _, 0, _, .cons r _, e => by
    simp at e
    subst e
    exact ⟨_, rfl, r⟩
  | _, _, i + 1, x, .cons _ t, e => by
    obtain ⟨y, h1, h2⟩ := paired_get (i := i) (x := x) t (by simpa using e)
    exact ⟨y, by simpa using h1, h2⟩
theorem paired_getR : ∀ {xs : List α} {ys : List β} {i : Nat} {y : β}, Paired R xs ys → ys[i]? = some y → ∃ x, xs[i]? = some x ∧ R x y
  | _, _, _, _, .nil, e => by simp at e
  | _, _, 0, _, .cons r _, e => by
    simp at e
    subst e
    exact ⟨_, rfl, r⟩
  | _, _, i + 1, x, .cons _ t, e => by
    obtain ⟨y, h1, h2⟩ := paired_getR (i := i) (y := x) t (by simpa using e)
    exact ⟨y, by simpa using h1, h2⟩
theorem paired_map {γ : Type} (f : γ → α) (g : γ → β) : ∀ {l : List γ}, (∀ c ∈ l, R (f c) (g c)) → Paired R (l.map f) (l.map g)
  | [], _ => .nil
  | c :: l, h => .cons (h c List.mem_cons_self) (paired_map f g fun d hd => h d (List.mem_cons_of_mem _ hd))
theorem paired_zip : ∀ {xs : List α} {ys : List β}, Paired R xs ys → ∃ zs : List (α × β), xs = zs.map (·.1) ∧ ys = zs.map (·.2) ∧ ∀ z ∈ zs, R z.1 z.2
  | _, _, .nil => ⟨[], rfl, rfl, fun _ h => absurd h (by simp)⟩
  | _, _, .cons (a := x) (b := y) r t => by
    obtain ⟨zs, e1, e2, h⟩ := paired_zip t
    refine ⟨(x, y) :: zs, by rw [e1]; rfl, by rw [e2]; rfl, fun z hz => ?_⟩
    rcases List.mem_cons.mp hz with e | hz
    · rw [e]
      exact r
    · exact h z hz
end
theorem nL_len (l : List Nat) : (nL l).length = l.length := List.length_map ..
theorem nL_get {l : List Nat} {i : Nat} {x : V} (h : (nL l)[i]? = some x) : ∃ v, l[i]? = some v ∧ x = nI v := by
  unfold nL at h
  rw [List.getElem?_map] at h
  cases e : l[i]? with
  | none =>
    rw [e] at h
    cases h
  | some v =>
    rw [e] at h
    exact ⟨v, rfl, (Option.some.inj h).symm⟩
theorem nL_at {l : List Nat} {i v : Nat} (h : l[i]? = some v) : (nL l)[i]? = some (nI v) := by
  unfold nL
  rw [List.getElem?_map, h]
  rfl
theorem nL_flat (l : List Nat) : (nL l).all flatV = true := by
  unfold nL
  rw [List.all_map]
  exact List.all_eq_true.mpr fun _ _ => rfl
theorem nL_app (l m : List Nat) : nL (l ++ m) = nL l ++ nL m := List.map_append ..
theorem nL_int (l : List Nat) : nL l = (l.map fun n : Nat => (n : Int)).map V.int := by
  unfold nL
  rw [List.map_map]
  rfl
theorem nL_inj : ∀ {l m : List Nat}, nL l = nL m → l = m
  | [], [], _ => rfl
  | [], _ :: _, h => by cases h
  | _ :: _, [], h => by cases h
  | a :: l, b :: m, h => by
    have h1 : (a : Int) = (b : Int) := V.int.inj (List.cons.inj h).1
    rw [Int.ofNat.inj h1, nL_inj (List.cons.inj h).2]
theorem nL_key (l : List Nat) : nL l = (l.map fun n : Nat => (Sum.inl (n : Int) : Key)).map kV := by
  unfold nL
  rw [List.map_map]
  rfl
theorem inV_nL (v : Nat) (l : List Nat) : inV (nI v) (nL l) = decide (v ∈ l) := by
  unfold inV nL
  rw [List.any_map, Bool.eq_iff_iff, List.any_eq_true, decide_eq_true_eq]
  constructor
  · rintro ⟨u, hu, e⟩
    have e' : eqV (.int (u : Int)) (.int (v : Int)) = true := e
    have : (u : Int) = (v : Int) := by simpa [eqV] using e'
    have : u = v := by omega
    rw [← this]
    exact hu
  · intro h
    refine ⟨v, h, ?_⟩
    show eqV (.int (v : Int)) (.int (v : Int)) = true
    simp [eqV]
/-- what sorting gives -/
theorem sorted_nat {l : List Nat} {ms : List Int} (p : ms.Perm (l.map fun n : Nat => (n : Int))) (h : ms.Pairwise (· ≤ ·)) : ms.map V.int = nL (srt l) := by
  have key : ms = (srt l).map fun n : Nat => (n : Int) := by
    refine K67M.perm_sorted (r := (· ≤ ·)) (fun a b h1 h2 => by omega) (p.trans ((K67M.srt_perm l).map _).symm) h ?_
    exact List.pairwise_map.mpr ((K67M.srt_sorted l).imp fun {a b} q => by omega)
  rw [key, nL_int]
theorem lst_ne_tup {H : Hp} {a b : Addr} {xs ys : List V} (h : H a = some (.lst xs)) (g : H b = some (.tup ys)) : a ≠ b := fun e => by
  rw [e, g] at h
  cases h
theorem ex_new {H : Hp} {p : Addr} {o : HO} (h : H p = none) : Ex H (upd H p o) := Evl.Ex.new h
theorem ex_mut {H H' : Hp} {p : Addr} {o : HO} (e : Ex H H') (h : H p = none) : Ex H (upd H' p o) := Evl.Ex.mut e h
theorem ex_none {H H' : Hp} {p : Addr} (e : Ex H H') (h : H' p = none) : H p = none := Evl.fresh_back e h
theorem small {n : Nat} (h : n ≤ 10000000) : n ≤ sizeLine := Nat.le_trans h (by decide)
theorem smallT {n : Nat} (h : n ≤ 10000000) : n < sizeLine := Nat.lt_of_le_of_lt h (by decide)
theorem in2 {H : Hp} {K : PySem.W.Frag} {a : Addr} {xs : List V} (h : H a = some (.lst xs)) : SqL K H a xs := .inl (.inl h)
theorem in3 {H : Hp} {K : PySem.W.Frag} {a : Addr} {xs : List V} (h : H a = some (.tup xs)) : SqT K H a xs := .inl (.inl h)
theorem kb_int_int : kitB "int" "int" = some true := by decide +kernel
theorem kb_int_bool : kitB "int" "bool" = some false := by decide +kernel
theorem kb_int_list : kitB "int" "list" = some false := by decide +kernel
theorem kb_int_tuple : kitB "int" "tuple" = some false := by decide +kernel
theorem kb_int_str : kitB "int" "str" = some false := by decide +kernel
theorem kb_bool_int : kitB "bool" "int" = some true := by decide +kernel
theorem kb_bool_bool : kitB "bool" "bool" = some true := by decide +kernel
theorem kb_bool_list : kitB "bool" "list" = some false := by decide +kernel
theorem kb_bool_tuple : kitB "bool" "tuple" = some false := by decide +kernel
theorem kb_bool_str : kitB "bool" "str" = some false := by decide +kernel
theorem kb_list_int : kitB "list" "int" = some false := by decide +kernel
theorem kb_list_bool : kitB "list" "bool" = some false := by decide +kernel
theorem kb_list_list : kitB "list" "list" = some true := by decide +kernel
theorem kb_list_tuple : kitB "list" "tuple" = some false := by decide +kernel
theorem kb_list_str : kitB "list" "str" = some false := by decide +kernel
theorem kb_tuple_int : kitB "tuple" "int" = some false := by decide +kernel
theorem kb_tuple_bool : kitB "tuple" "bool" = some false := by decide +kernel
theorem kb_tuple_list : kitB "tuple" "list" = some false := by decide +kernel
theorem kb_tuple_tuple : kitB "tuple" "tuple" = some true := by decide +kernel
theorem kb_tuple_str : kitB "tuple" "str" = some false := by decide +kernel
theorem isi_ok {K : PySem.W.Frag} {H : Hp} {x : V} {a n : String} {b : Bool} {Q : VK} (ty : TyX K H x (.type a)) (h : kitB a n = some b) (q : Q (.bl b) H) : rIsi K [x, .ty n] H Q := ⟨x, .ty n, _, _, b, rfl, .ty n, ty, kit_ty h, q⟩
theorem ty_int {K : PySem.W.Frag} {H : Hp} (i : Int) : TyX K H (.int i) (.type "int") := .base (.int i)
theorem ty_lst {K : PySem.W.Frag} {H : Hp} {a : Addr} {xs : List V} (h : H a = some (.lst xs)) : TyX K H (.ref a) (.type "list") := .base (.lst h)
theorem ty_tup {K : PySem.W.Frag} {H : Hp} {a : Addr} {xs : List V} (h : H a = some (.tup xs)) : TyX K H (.ref a) (.type "tuple") := .base (.tup h)
/-! ### rules with the written part told (within comprehensions) -/
section
variable {X : Cx}
def rLenK (K : PySem.W.Frag) : List V → Hp → VK → Prop := fun xs H Q => ∃ p ys, xs = [.ref p] ∧ (SqL K H p ys ∨ SqT K H p ys) ∧ Q (.int ys.length) H
def rLstK (K : PySem.W.Frag) : List V → Hp → VK → Prop := fun xs H Q => ∃ p ys, xs = [.ref p] ∧ (SqL K H p ys ∨ SqT K H p ys) ∧ ∀ l, H l = none → Q (.ref l) (upd H l (.lst ys))
def rTupK (K : PySem.W.Frag) : List V → Hp → VK → Prop := fun xs H Q => ∃ p ys, xs = [.ref p] ∧ ((SqL K H p ys ∧ ∀ l, H l = none → Q (.ref l) (upd H l (.tup ys))) ∨ (SqT K H p ys ∧ Q (.ref p) H))
theorem lenK (K : PySem.W.Frag) (h : X.K = K := by rfl) : CallR X (.builtin "len") (rLenK K) := by
  subst h
  exact call_len_seq
theorem lstK (K : PySem.W.Frag) (h : X.K = K := by rfl) : CallR X (.type "list") (rLstK K) := by
  subst h
  exact call_list_of
theorem tupK (K : PySem.W.Frag) (h : X.K = K := by rfl) : CallR X (.type "tuple") (rTupK K) := by
  subst h
  exact call_tuple_of
theorem isiK (K : PySem.W.Frag) (h : X.K = K := by rfl) : CallR X (.builtin "isinstance") (rIsi K) := by
  subst h
  exact call_isi
theorem allK (K : PySem.W.Frag) (hc : X.calm = true := by rfl) (h : X.K = K := by rfl) : CallR X (.builtin "all") (rAll K) := by
  subst h
  exact cr_all hc
theorem srtK (K : PySem.W.Frag) (h : X.K = K := by rfl) : CallR X (.builtin "sorted") (rSortedI K) := by
  subst h
  exact cr_sortedI
theorem srtTK (K : PySem.W.Frag) (h : X.K = K := by rfl) : CallR X (.builtin "sorted") (rSortTI K) := by
  subst h
  exact cr_sortTI
theorem inK (K : PySem.W.Frag) (h : X.K = K := by rfl) : OpR X (compareOp .In) (rIn K false) := by
  subst h
  exact op_in_seq
theorem ninK (K : PySem.W.Frag) (h : X.K = K := by rfl) : OpR X (compareOp .NotIn) (rIn K true) := by
  subst h
  exact op_notIn_seq
theorem ixTK (K : PySem.W.Frag) (h : X.K = K := by rfl) : IxR X (rIxT K) := by
  subst h
  exact ix_tup
theorem ixLK (K : PySem.W.Frag) (h : X.K = K := by rfl) : IxR X (rIxL K) := by
  subst h
  exact ix_list
variable {e : Expr} {te : TE} {f : Str} {pos : PySem.Pos} {tg : Expr}
theorem fldK (K : PySem.W.Frag) (he : PE X e te) (hb : attributeBase e f X.env (eval e X.env) = eval e X.env := by rfl) (h : X.K = K := by rfl) : PE X (.Attribute e f pos) (tFld K te f) := by
  subst h
  exact pe_fld he hb
theorem pilK (K : PySem.W.Frag) (he : PE X e te) (h : X.K = K := by rfl) : PI X tg e (iList K te) := by
  subst h
  exact pi_list he
theorem pitK (K : PySem.W.Frag) (he : PE X e te) (h : X.K = K := by rfl) : PI X tg e (iTup K te) := by
  subst h
  exact pi_tup he
theorem gtupK (K : PySem.W.Frag) {es : List Expr} {k n : Nat} {t : TGs} (hc : X.calm = true) (h : PGs X es t) (hn : (assignEach es X.env).length = n := by rfl) (hst : (assignEach es X.env).findIdx? (·.1) = none := by rfl) (hK : X.K = K := by rfl) : PG X (.Tuple es k pos) (gTup K n t) := by
  subst hK
  exact pg_tup hc h hn hst
end
end K67
set_option Elab.async false
set_option linter.all false
set_option maxRecDepth 100000
set_option maxHeartbeats 2000000
namespace K67
open PySem PySem.Spec PyProof.Rows L2
open K67M (Gr comp IsPos Holds Gf Ok Reach srt ins del)
section
variable {P : Program} {w : World} {K : PySem.W.Frag} {mg : Str → Option Value} {base : Heap} {C CT CB : Addr}
/-! ### is_integer, is_index, check_number -/
def spInt : Sp := fun vs H Q _ => ∃ i : Int, vs = [.int i] ∧ Q (.bl true) H
theorem sc_is_integer : FnScope ["value"] ["value"] (defScope (top 8)) := ⟨rfl, rfl, rfl, by decide +kernel, rfl, by decide +kernel, by decide +kernel⟩
theorem cal_is_integer (T : Txt K mg C CT CB) (D : Df K mg "is_integer" 8) : Cal P w K mg base 1 "is_integer" spInt := by
  refine cal_mk D sc_is_integer (fun _ _ _ _ _ _ us hl => match us, hl with | [_], _ => rfl) (fun vs H Q E h => ?_) (fun f cdv A outer s H vs Q E hr h => ?_)
  · obtain ⟨i, rfl, _⟩ := h
    rfl
  · obtain ⟨i, rfl, q⟩ := h
    refine ⟨_, (pss_one (ps_ret (pe_and (pe_callB (isiK K) (by rfl) T.zisinstance (by decide +kernel) (pa_cons (pv 0) (pa_cons (pe_bltn (v := .ty "int") (by rfl) T.zint (by decide +kernel) rfl) pa_nil))) (pe_one (pe_not (pe_callB (isiK K) (by rfl) T.zisinstance (by decide +kernel) (pa_cons (pv 0) (pa_cons (pe_bltn (v := .ty "bool") (by rfl) T.zbool (by decide +kernel) rfl) pa_nil)))))))), ?_⟩
    refine ⟨_, rfl, _, _, _, _, true, rfl, .ty _, ty_int i, kit_ty kb_int_int, true, rfl, ?_⟩
    exact ⟨_, rfl, _, _, _, _, false, rfl, .ty _, ty_int i, kit_ty kb_int_bool, false, rfl, q⟩
def spIdx : Sp := fun vs H Q _ => ∃ i b : Int, vs = [.int i, .int b] ∧ Q (.bl (decide (0 ≤ i ∧ i < b))) H
theorem sc_is_index : FnScope ["value", "bound"] ["value", "bound"] (defScope (top 9)) := ⟨rfl, rfl, rfl, by decide +kernel, rfl, by decide +kernel, by decide +kernel⟩
theorem cal_is_index (T : Txt K mg C CT CB) (D : Df K mg "is_index" 9) (c_is_integer : Cal P w K mg base 1 "is_integer" spInt) : Cal P w K mg base 2 "is_index" spIdx := by
  refine cal_mk D sc_is_index (fun _ _ _ _ _ _ us hl => match us, hl with | [_, _], _ => rfl) (fun vs H Q E h => ?_) (fun f cdv A outer s H vs Q E hr h => ?_)
  · obtain ⟨i, b, rfl, _⟩ := h
    rfl
  · obtain ⟨i, b, rfl, q⟩ := h
    refine ⟨_, (pss_one (ps_ret (pe_and (pe_c c_is_integer hr (by decide) rfl (pa_cons (pv 0) pa_nil)) (pe_one (pe_chain op_le op_lt pe_int (pv 0) (pv 1)))))), ?_⟩
    refine ⟨_, rfl, i, rfl, true, rfl, iteT ⟨_, rfl, _, _, rfl, rfl, _, rfl, ?_⟩⟩
    refine ite2 (fun e => ?_) (fun e => ?_)
    · have e1 := of_decide_eq_true e
      refine ⟨_, rfl, _, _, rfl, rfl, ?_⟩
      have e2 : decide (0 ≤ i ∧ i < b) = decide (i < b) := by simp [e1]
      rw [e2] at q
      exact q
    · have e1 : ¬ 0 ≤ i := by simpa using e
      have e2 : decide (0 ≤ i ∧ i < b) = false := by simp [e1]
      rw [e2] at q
      exact q
def spNum : Sp := fun vs H Q _ => ∃ i a b : Int, vs = [.int i, .int a, .int b] ∧ (a ≤ i ∧ i ≤ b) ∧ Q .non H
theorem sc_check_number : FnScope ["value", "least", "most"] ["value", "least", "most"] (defScope (top 15)) := ⟨rfl, rfl, rfl, by decide +kernel, rfl, by decide +kernel, by decide +kernel⟩
theorem cal_check_number (T : Txt K mg C CT CB) (D : Df K mg "check_number" 15) (c_is_integer : Cal P w K mg base 1 "is_integer" spInt) : Cal P w K mg base 2 "check_number" spNum := by
  refine cal_mk D sc_check_number (fun _ _ _ _ _ _ us hl => match us, hl with | [_, _, _], _ => rfl) (fun vs H Q E h => ?_) (fun f cdv A outer s H vs Q E hr h => ?_)
  · obtain ⟨i, a, b, rfl, _⟩ := h
    rfl
  · obtain ⟨i, a, b, rfl, ⟨h1, h2⟩, q⟩ := h
    refine ⟨_, (pss_one (ps_if (PW.pt (pw_or (pt_not (pt_val (pe_c c_is_integer hr (by decide) rfl (pa_cons (pv 0) pa_nil)))) (pw_or1 (pt_not (pt_chain op_le op_le (pv 1) (pv 0) (pv 2)))))) (pss_one ps_never) pss_nil)), ?_⟩
    refine ⟨_, rfl, i, rfl, true, rfl, iteF ⟨_, rfl, _, rfl, _, _, rfl, rfl, true, congrArg V.bl (decide_eq_true h1), iteT ⟨_, rfl, _, _, rfl, rfl, true, congrArg V.bl (decide_eq_true h2), ?_⟩⟩⟩
    exact iteF q
end
end K67
set_option Elab.async false
set_option linter.all false
set_option maxRecDepth 100000
set_option maxHeartbeats 2000000
namespace K67
open PySem PySem.Spec PyProof.Rows L2
open K67M (Gr comp IsPos Holds Gf Ok Reach srt ins del)
/-! ### graphs in the heap -/
def flds (n : Nat) (e l : Addr) : List (Str × V) := [("nodes", nI n), ("edges", .ref e), ("links", .ref l)]
theorem s_en : (("edges" : Str) == ("nodes" : Str)) = false := by decide +kernel
theorem s_ln : (("links" : Str) == ("nodes" : Str)) = false := by decide +kernel
theorem s_le : (("links" : Str) == ("edges" : Str)) = false := by decide +kernel
theorem flds_nodes (n : Nat) (e l : Addr) : (flds n e l).lookup ("nodes" : Str) = some (nI n) := by
  unfold flds
  rw [List.lookup_cons]
  simp
theorem flds_edges (n : Nat) (e l : Addr) : (flds n e l).lookup ("edges" : Str) = some (.ref e) := by
  unfold flds
  rw [List.lookup_cons, s_en, List.lookup_cons]
  simp
theorem flds_links (n : Nat) (e l : Addr) : (flds n e l).lookup ("links" : Str) = some (.ref l) := by
  unfold flds
  rw [List.lookup_cons, s_ln, List.lookup_cons, s_le, List.lookup_cons]
  simp
def gr (rows : List (List Nat)) : Gr := fun u v => decide (v ∈ rows.getD u [])
def GraphAt (C : Addr) (H : Hp) (g : Addr) (rows : List (List Nat)) : Prop := ∃ dx e l, H g = some (.ins C dx (flds rows.length e l)) ∧ LOf LstN H l rows
theorem GraphAt.ex {C : Addr} {H H' : Hp} {g : Addr} {rows : List (List Nat)} (e : Ex H H') (h : GraphAt C H g rows) : GraphAt C H' g rows := by
  obtain ⟨dx, ed, l, h1, h2⟩ := h
  exact ⟨dx, ed, l, e _ _ h1, h2.ex (fun e z => z.ex e) e⟩
theorem gr_get {rows : List (List Nat)} {u : Nat} {r : List Nat} (h : rows[u]? = some r) (v : Nat) : gr rows u v = decide (v ∈ r) := by
  unfold gr
  rw [List.getD_eq_getElem?_getD, h]
  rfl
/-! ### breadth first -/
structure Bf (G : Gr) (X : List Nat) (s : Nat) (l : List Nat) (at_ : Nat) : Prop where
  nd : l.Nodup
  mem : s ∈ l
  rch : ∀ v ∈ l, Reach G X s v
  cl : ∀ (i v : Nat), i < at_ → l[i]? = some v → ∀ w, G v w = true → w ∉ X → w ∈ l
  le : at_ ≤ l.length
section
variable {G : Gr} {n : Nat} {X l : List Nat} {s a v w : Nat}
theorem Bf.start : Bf G X s [s] 0 := ⟨List.nodup_cons.mpr ⟨by simp, List.nodup_nil⟩, List.mem_cons_self, fun v h => by
  rw [List.mem_singleton] at h
  rw [h]
  exact .refl, fun _ _ h => absurd h (Nat.not_lt_zero _), Nat.zero_le _⟩
theorem Bf.len (o : Ok n G) (hs : s < n) (b : Bf G X s l a) : l.length ≤ n := by
  have h := K67M.nodup_sub b.nd (m := List.range n) fun x hx => List.mem_range.mpr ((b.rch x hx).lt o hs)
  rw [List.length_range] at h
  exact h
theorem Bf.add (b : Bf G X s l a) (hv : l[a]? = some v) (g : G v w = true) (hw : w ∉ l) (hX : w ∉ X) : Bf G X s (l ++ [w]) a := by
  have ha : a < l.length := (List.getElem?_eq_some_iff.mp hv).1
  refine ⟨?_, List.mem_append_left _ b.mem, fun x hx => ?_, fun i x hi hx y gy hy => ?_, ?_⟩
  · rw [List.nodup_append]
    refine ⟨b.nd, List.nodup_cons.mpr ⟨by simp, List.nodup_nil⟩, fun x hx y hy e => ?_⟩
    rw [List.mem_singleton] at hy
    subst hy
    subst e
    exact hw hx
  · rcases List.mem_append.mp hx with hx | hx
    · exact b.rch x hx
    · rw [List.mem_singleton] at hx
      rw [hx]
      exact .step (b.rch v (List.mem_of_getElem? hv)) g hX
  · rw [List.getElem?_append_left (by omega)] at hx
    exact List.mem_append_left _ (b.cl i x hi hx y gy hy)
  · rw [List.length_append]
    omega
theorem Bf.next (b : Bf G X s l a) (hv : l[a]? = some v) (h : ∀ w, G v w = true → w ∉ X → w ∈ l) : Bf G X s l (a + 1) := by
  have ha : a < l.length := (List.getElem?_eq_some_iff.mp hv).1
  refine ⟨b.nd, b.mem, b.rch, fun i x hi hx => ?_, ha⟩
  by_cases e : i = a
  · subst e
    rw [hv] at hx
    cases hx
    exact h
  · exact b.cl i x (by omega) hx
theorem Bf.all (b : Bf G X s l a) (h : l.length ≤ a) (r : Reach G X s v) : v ∈ l := by
  induction r with
  | refl => exact b.mem
  | step _ g q ih =>
    obtain ⟨i, hi, e⟩ := List.mem_iff_getElem.mp ih
    exact b.cl i _ (by omega) (by rw [List.getElem?_eq_getElem hi, e]) _ g q
theorem Bf.done (o : Ok n G) (hs : s < n) (b : Bf G X s l a) (h : l.length ≤ a) : srt l = comp G n X s := by
  refine K67M.sorted_ext (K67M.lt_of_le_nodup (K67M.srt_sorted l) ((K67M.srt_perm l).nodup_iff.mpr b.nd)) K67M.comp_sorted fun v => ?_
  rw [(K67M.srt_perm l).mem_iff, K67M.mem_comp o hs]
  exact ⟨fun q => b.rch v q, fun q => b.all h q⟩
end
def SeqN (H : Hp) (c : Addr) (X : List Nat) : Prop := H c = some (.lst (nL X)) ∨ H c = some (.tup (nL X))
theorem SeqN.ex {H H' : Hp} {c : Addr} {X : List Nat} (e : Ex H H') (h : SeqN H c X) : SeqN H' c X := h.imp (e _ _) (e _ _)
theorem SeqN.rd {K : PySem.W.Frag} {H : Hp} {c : Addr} {X : List Nat} (h : SeqN H c X) : SqL K H c (nL X) ∨ SqT K H c (nL X) := h.imp in2 in3
section
variable {P : Program} {w : World} {K : PySem.W.Frag} {mg : Str → Option Value} {base : Heap} {C CT CB : Addr}
def spReached (C : Addr) : Sp := fun vs H Q _ => ∃ (g c : Addr) (s : Nat) (rows : List (List Nat)) (X : List Nat), vs = [.ref g, nI s, .ref c] ∧ GraphAt C H g rows ∧ Ok rows.length (gr rows) ∧ rows.length ≤ 1000 ∧ s < rows.length ∧ SeqN H c X ∧
  ∀ H' p, Ex H H' → H p = none → H' p = some (.lst (nL (comp (gr rows) rows.length X s))) → Q (.ref p) H'
theorem sc_reached : FnScope ["graph", "start", "closed", "seen", "at", "other"] ["graph", "start", "closed"] (defScope (top 16)) := ⟨rfl, rfl, rfl, by decide +kernel, rfl, by decide +kernel, by decide +kernel⟩
theorem cal_reached (T : Txt K mg C CT CB) (D : Df K mg "reached" 16) : Cal P w K mg base 1 "reached" (spReached C) := by
  refine cal_mk D sc_reached (fun _ _ _ _ _ _ us hl => match us, hl with | [_, _, _], _ => rfl) (fun vs H Q E h => ?_) (fun f cdv A outer s H vs Q E hr h => ?_)
  · obtain ⟨g, c, s, rows, X, rfl, _⟩ := h
    rfl
  · obtain ⟨g, c, st, rows, X, rfl, hG, ok, hn, hs, hc, q⟩ := h
    obtain ⟨dx, ed, lk, hg, lv, hlk, hrows⟩ := id hG
    refine ⟨_, (pss_cons (ps_set (i := 3) sc_reached.nd rfl (.inl rfl) (pe_lst (pa_cons (pv 1) pa_nil)))
      (pss_cons (ps_set (i := 4) sc_reached.nd rfl (.inl rfl) pe_int)
      (pss_cons (ps_while PassesOwn.never (pt_cmpR op_lt (pv 4) (pe_callB (lenK K) (by rfl) T.zlen PySem.boot_len (pa_cons (pv 3) pa_nil)) (nomark _)) (pss_cons (ps_for PassesOwn.never rfl (pilK K (pe_ix (ixLK K) (fldK K (pv 0)) (pe_ix (ixLK K) (pv 3) (pv 4) (fun _ _ => rfl)) (fun _ _ => rfl))) (pg_name (i := 5) sc_reached.nd rfl (.inl rfl)) (pss_one (ps_if (PW.pt (pw_and (pt_cmpR (ninK K) (pv 5) (pv 3) (by rfl)) (pw_and1 (pt_cmpR (ninK K) (pv 5) (pv 2) (by rfl))))) (pss_one (ps_expr (pe_bm PySem.F.plainAttrs_list PySem.F.slot_list_append PySem.F.type_list_append mt_append (pv 3) (pa_cons (pv 5) pa_nil)))) pss_nil)))
      (pss_one (ps_aug (i := 4) sc_reached.nd rfl (.inl rfl) pe_int ip_add))))
      (pss_one (ps_ret (pe_callB (srtK K) (by rfl) T.zsorted (by decide +kernel) (pa_cons (pv 3) pa_nil))))))), ?_⟩
    refine ⟨_, rfl, small (by show 1 ≤ 10000000; decide), fun S nS => ?_⟩
    refine ⟨fun m σ H' => ∃ (l : List Nat) (a : Nat) (o : Option V), σ = [some (.ref g), some (nI st), some (.ref c), some (.ref S), some (nI a), o] ∧ Ex H H' ∧ H' S = some (.lst (nL l)) ∧ Bf (gr rows) X st l a ∧ m + a = rows.length,
      ⟨rows.length, [st], 0, none, rfl, ex_new nS, upd_same, .start, rfl⟩, fun m σ H1 hW => ?_⟩
    obtain ⟨l, a, o, rfl, e1, hS, b, hm⟩ := hW
    refine ⟨_, rfl, _, rfl, S, _, rfl, .inl (in2 hS), _, _, rfl, rfl, _, rfl, ?_⟩
    refine ite2 (fun c1 => ?_) (fun c1 => ?_)
    · have c2 : (a : Int) < ((nL l).length : Int) := of_decide_eq_true c1
      rw [nL_len] at c2
      have ha : a < l.length := by omega
      have hll := b.len ok hs
      have hv : l[a]? = some l[a] := List.getElem?_eq_getElem ha
      have hvn : l[a] < rows.length := (b.rch _ (List.getElem_mem ha)).lt ok hs
      have hrow : rows[l[a]]? = some rows[l[a]] := List.getElem?_eq_getElem hvn
      obtain ⟨rv, hrv, rr, erv, hrr⟩ := paired_getR hrows hrow
      refine ⟨fun σ' H' => ∃ (l : List Nat) (o : Option V), σ' = [some (.ref g), some (nI st), some (.ref c), some (.ref S), some (nI (a + 1)), o] ∧ Ex H H' ∧ H' S = some (.lst (nL l)) ∧ Bf (gr rows) X st l (a + 1),
        fun σ' H' hN => ?_, ?_⟩
      · obtain ⟨l', o', e, e2, hS', b'⟩ := hN
        exact ⟨m - 1, by omega, l', a + 1, o', e, e2, hS', b', by omega⟩
      · refine ⟨_, rfl, g, C, dx, _, _, rfl, e1 _ _ hg, T.cl, T.nLinks, flds_links _ _ _, _, rfl, _, rfl, S, _, _, _, rfl, rfl, in2 hS, atI_nat (nL_at hv), lk, _, _, rv, rfl, rfl, in2 (e1 _ _ hlk), atI_nat hrv, rr, erv, ⟨_, in2 (e1 _ _ hrr)⟩, ?_⟩
        refine for_list (xs := nL rows[l[a]]) (fun j σ' H' => ∃ (l' : List Nat) (o : Option V), σ' = [some (.ref g), some (nI st), some (.ref c), some (.ref S), some (nI a), o] ∧ Ex H H' ∧ H' S = some (.lst (nL l')) ∧ Bf (gr rows) X st l' a ∧ l'[a]? = some l[a] ∧ ∀ w ∈ rows[l[a]].take j, w ∉ X → w ∈ l')
          ⟨l, o, rfl, e1, hS, b, hv, fun w hw => absurd hw (by simp)⟩ (fun j σ' H' _ hP => ?_) (fun j x σ' H' hx hP => ?_) (fun σ' H' hP => ?_)
        · obtain ⟨_, _, _, e2, _⟩ := hP
          exact in2 (e2 _ _ hrr)
        · obtain ⟨l', o', rfl, e2, hS', b', hv', hdone⟩ := hP
          obtain ⟨y, hy, rfl⟩ := nL_get hx
          have htk : rows[l[a]].take (j + 1) = rows[l[a]].take j ++ [y] := by rw [List.take_add_one, hy]; rfl
          have hgy : gr rows l[a] y = true := by
            rw [gr_get hrow]
            exact decide_eq_true (List.mem_of_getElem? hy)
          have hl' := b'.len ok hs
          have stay : y ∈ l' ∨ y ∈ X → ∀ w ∈ rows[l[a]].take (j + 1), w ∉ X → w ∈ l' := fun hyl w hw hwX => by
            rw [htk] at hw
            rcases List.mem_append.mp hw with hw | hw
            · exact hdone w hw hwX
            · rw [List.mem_singleton] at hw
              subst hw
              exact hyl.elim id fun z => absurd z hwX
          refine ⟨_, rfl, _, rfl, S, _, rfl, .inl (in2 hS'), rfl, nL_flat _, _, rfl, ?_⟩
          rw [inV_nL]
          refine ite2 (fun c3 => ?_) (fun c3 => ?_)
          · have hyl : y ∉ l' := by simpa using c3
            refine ⟨_, rfl, _, rfl, c, _, rfl, (hc.ex e2).rd, rfl, nL_flat _, _, rfl, ?_⟩
            rw [inV_nL]
            refine ite2 (fun c4 => ?_) (fun c4 => ?_)
            · have hyX : y ∉ X := by simpa using c4
              refine ⟨_, rfl, .inl ⟨rfl, _, in2 hS'⟩, _, rfl, S, _, _, rfl, rfl, hS', by rw [nL_len]; exact smallT (by omega), ?_⟩
              refine ⟨l' ++ [y], _, rfl, ex_mut e2 nS, by rw [upd_same, nL_app]; rfl, b'.add hv' hgy hyl hyX, ?_, fun w hw hwX => ?_⟩
              · rw [List.getElem?_append_left (List.getElem?_eq_some_iff.mp hv').1]
                exact hv'
              · rw [htk] at hw
                rcases List.mem_append.mp hw with hw | hw
                · exact List.mem_append_left _ (hdone w hw hwX)
                · exact List.mem_append_right _ hw
            · have hyX : y ∈ X := by simpa using c4
              exact ⟨l', _, rfl, e2, hS', b', hv', stay (.inr hyX)⟩
          · have hyl : y ∈ l' := by simpa using c3
            exact ⟨l', _, rfl, e2, hS', b', hv', stay (.inl hyl)⟩
        · obtain ⟨l', o', rfl, e2, hS', b', hv', hdone⟩ := hP
          refine ⟨_, rfl, _, _, rfl, rfl, l', o', rfl, e2, hS', b'.next hv' fun w gw hwX => hdone w ?_ hwX⟩
          rw [nL_len, List.take_length]
          rw [gr_get hrow] at gw
          exact of_decide_eq_true gw
    · have c2 : ¬ (a : Int) < ((nL l).length : Int) := fun z => c1 (decide_eq_true z)
      rw [nL_len] at c2
      refine ⟨_, rfl, S, _, rfl, in2 (by rw [hS, nL_int]), fun ms p hp hsd np => ?_⟩
      refine q _ p (e1.trans (ex_new np)) (ex_none e1 np) ?_
      rw [upd_same, sorted_nat hp hsd, b.done ok hs (by omega)]
end
end K67
set_option Elab.async false
set_option linter.all false
set_option maxRecDepth 100000
set_option maxHeartbeats 2000000
namespace K67
open PySem PySem.Spec PyProof.Rows L2
open K67M (Gr comp IsPos Holds Gf Ok Reach srt ins del)
/-! ### all components -/
/-- the first node of its component -/
def Fst (G : Gr) (X : List Nat) (v : Nat) : Prop := v ∉ X ∧ ∀ u, u < v → u ∉ X → ¬ Reach G X u v
noncomputable def partsTo (G : Gr) (n : Nat) (X : List Nat) (i : Nat) : List (List Nat) := ((List.range i).filter fun v => @decide (Fst G X v) (Classical.propDecidable _)).map (comp G n X)
noncomputable def parts (G : Gr) (n : Nat) (X : List Nat) : List (List Nat) := partsTo G n X n
section
variable {G : Gr} {n i : Nat} {X c : List Nat}
theorem partsTo_yes (h : Fst G X i) : partsTo G n X (i + 1) = partsTo G n X i ++ [comp G n X i] := by
  unfold partsTo
  rw [List.range_succ, List.filter_append, List.map_append, List.filter_cons, if_pos (by simpa using h)]
  rfl
theorem partsTo_no (h : ¬ Fst G X i) : partsTo G n X (i + 1) = partsTo G n X i := by
  unfold partsTo
  rw [List.range_succ, List.filter_append, List.map_append, List.filter_cons, if_neg (by simpa using h)]
  simp
theorem mem_partsTo : c ∈ partsTo G n X i ↔ ∃ v, v < i ∧ Fst G X v ∧ c = comp G n X v := by
  unfold partsTo
  rw [List.mem_map]
  constructor
  · rintro ⟨v, hv, rfl⟩
    obtain ⟨h1, h2⟩ := List.mem_filter.mp hv
    exact ⟨v, List.mem_range.mp h1, by simpa using h2, rfl⟩
  · rintro ⟨v, h1, h2, rfl⟩
    exact ⟨v, List.mem_filter.mpr ⟨List.mem_range.mpr h1, by simpa using h2⟩, rfl⟩
/-- every component has its first node -/
theorem first_of (o : Ok n G) : ∀ (v : Nat), v < n → v ∉ X → ∃ u, u ≤ v ∧ Fst G X u ∧ Reach G X u v := by
  intro v
  induction v using Nat.strongRecOn with
  | ind v ih =>
    intro hv hX
    by_cases q : ∃ u, u < v ∧ u ∉ X ∧ Reach G X u v
    · obtain ⟨u, h1, h2, h3⟩ := q
      obtain ⟨x, k1, k2, k3⟩ := ih u h1 (by omega) h2
      exact ⟨x, by omega, k2, k3.trans h3⟩
    · exact ⟨v, Nat.le_refl _, ⟨hX, fun u h1 h2 h3 => q ⟨u, h1, h2, h3⟩⟩, .refl⟩
theorem mem_parts (o : Ok n G) : c ∈ parts G n X ↔ ∃ s, s < n ∧ s ∉ X ∧ c = comp G n X s := by
  unfold parts
  rw [mem_partsTo]
  constructor
  · rintro ⟨v, h1, h2, h3⟩
    exact ⟨v, h1, h2.1, h3⟩
  · rintro ⟨s, h1, h2, h3⟩
    obtain ⟨u, k1, k2, k3⟩ := first_of o s h1 h2
    exact ⟨u, by omega, k2, by rw [h3, K67M.comp_eq o (by omega) k2.1 k3]⟩
theorem parts_len : (parts G n X).length ≤ n := by
  unfold parts partsTo
  rw [List.length_map]
  have := List.length_filter_le (fun v => @decide (Fst G X v) (Classical.propDecidable _)) (List.range n)
  rw [List.length_range] at this
  exact this
theorem parts_nodup (o : Ok n G) : (parts G n X).Nodup := by
  unfold parts partsTo
  rw [List.nodup_iff_pairwise_ne, List.pairwise_map]
  refine List.Pairwise.imp_of_mem ?_ (List.pairwise_lt_range.filter _)
  intro u v hu hv huv e
  obtain ⟨h1, h2⟩ := List.mem_filter.mp hu
  obtain ⟨h3, h4⟩ := List.mem_filter.mp hv
  have f1 : Fst G X u := by simpa using h2
  have f2 : Fst G X v := by simpa using h4
  have hvn := List.mem_range.mp h3
  have hun := List.mem_range.mp h1
  have : v ∈ comp G n X u := by
    rw [e]
    exact K67M.self_comp o hvn
  rw [K67M.mem_comp o hun] at this
  exact f2.2 u huv f1.1 this
end
/-- what is done behind the nodes below i -/
def Dn (G : Gr) (X : List Nat) (i : Nat) (d : List Nat) : Prop := ∀ v, v ∈ d ↔ v ∈ X ∨ ∃ u, u < i ∧ u ∉ X ∧ Reach G X u v
theorem Dn.fst {G : Gr} {X d : List Nat} {i : Nat} (h : Dn G X i d) : Fst G X i ↔ i ∉ d := by
  rw [h i]
  constructor
  · rintro ⟨a, b⟩ (z | ⟨u, h1, h2, h3⟩)
    · exact a z
    · exact b u h1 h2 h3
  · intro z
    exact ⟨fun q => z (.inl q), fun u h1 h2 h3 => z (.inr ⟨u, h1, h2, h3⟩)⟩
theorem Dn.yes {G : Gr} {n : Nat} {X d : List Nat} {i : Nat} (o : Ok n G) (hi : i < n) (h : Dn G X i d) (f : Fst G X i) : Dn G X (i + 1) (d ++ comp G n X i) := by
  intro v
  rw [List.mem_append, h v, K67M.mem_comp o hi]
  constructor
  · rintro ((a | ⟨u, h1, h2, h3⟩) | a)
    · exact .inl a
    · exact .inr ⟨u, by omega, h2, h3⟩
    · exact .inr ⟨i, by omega, f.1, a⟩
  · rintro (a | ⟨u, h1, h2, h3⟩)
    · exact .inl (.inl a)
    · by_cases e : u = i
      · subst e
        exact .inr h3
      · exact .inl (.inr ⟨u, by omega, h2, h3⟩)
theorem Dn.no {G : Gr} {n : Nat} {X d : List Nat} {i : Nat} (o : Ok n G) (h : Dn G X i d) (f : ¬ Fst G X i) : Dn G X (i + 1) d := by
  intro v
  rw [h v]
  constructor
  · rintro (a | ⟨u, h1, h2, h3⟩)
    · exact .inl a
    · exact .inr ⟨u, by omega, h2, h3⟩
  · rintro (a | ⟨u, h1, h2, h3⟩)
    · exact .inl a
    · by_cases e : u = i
      · subst e
        have : u ∈ d := Classical.byContradiction fun z => f (h.fst.mpr z)
        rcases (h u).mp this with z | ⟨x, k1, k2, k3⟩
        · exact absurd z h2
        · exact .inr ⟨x, k1, k2, k3.trans h3⟩
      · exact .inr ⟨u, by omega, h2, h3⟩
section
variable {P : Program} {w : World} {K : PySem.W.Frag} {mg : Str → Option Value} {base : Heap} {C CT CB : Addr}
def spParts (C : Addr) : Sp := fun vs H Q _ => ∃ (g c : Addr) (rows : List (List Nat)) (X : List Nat), vs = [.ref g, .ref c] ∧ GraphAt C H g rows ∧ Ok rows.length (gr rows) ∧ rows.length ≤ 1000 ∧ SeqN H c X ∧ X.length ≤ 1000 ∧
  ∀ H' p, Ex H H' → LOf LstN H' p (parts (gr rows) rows.length X) → Q (.ref p) H'
theorem sc_parts_without : FnScope ["graph", "closed", "found", "done", "node", "part"] ["graph", "closed"] (defScope (top 17)) := ⟨rfl, rfl, rfl, by decide +kernel, rfl, by decide +kernel, by decide +kernel⟩
theorem cal_parts_without (T : Txt K mg C CT CB) (D : Df K mg "parts_without" 17) (c_reached : Cal P w K mg base 1 "reached" (spReached C)) : Cal P w K mg base 2 "parts_without" (spParts C) := by
  refine cal_mk D sc_parts_without (fun _ _ _ _ _ _ us hl => match us, hl with | [_, _], _ => rfl) (fun vs H Q E h => ?_) (fun f cdv A outer s H vs Q E hr h => ?_)
  · obtain ⟨g, c, rows, X, rfl, _⟩ := h
    rfl
  · obtain ⟨g, c, rows, X, rfl, hG, ok, hn, hc, hXl, q⟩ := h
    obtain ⟨dx, ed, lk, hg, _⟩ := id hG
    refine ⟨_, (pss_cons (ps_set (i := 2) sc_parts_without.nd rfl (.inl rfl) (pe_lst pa_nil))
      (pss_cons (ps_set (i := 3) sc_parts_without.nd rfl (.inl rfl) (pe_callTy (lstK K) (by rfl) T.zlist (by decide +kernel) (pa_cons (pv 1) pa_nil)))
      (pss_cons (ps_for PassesOwn.never rfl (pi_range1 rfl T.zrange (pa_cons (fldK K (pv 0)) pa_nil)) (pg_name (i := 4) sc_parts_without.nd rfl (.inl rfl)) (pss_one (ps_if (pt_cmpR (ninK K) (pv 4) (pv 3) (by rfl)) (pss_cons (ps_set (i := 5) sc_parts_without.nd rfl (.inl rfl) (pe_c c_reached hr (by decide) rfl (pa_cons (pv 0) (pa_cons (pv 4) (pa_cons (pv 1) pa_nil)))))
      (pss_cons (ps_expr (pe_bm PySem.F.plainAttrs_list PySem.F.slot_list_append PySem.F.type_list_append mt_append (pv 2) (pa_cons (pv 5) pa_nil)))
      (pss_one (ps_expr (pe_bm PySem.F.plainAttrs_list PySem.F.slot_list_extend PySem.F.type_list_extend mt_extend (pv 3) (pa_cons (pv 5) pa_nil)))))) pss_nil)))
      (pss_one (ps_ret (pv 2)))))), ?_⟩
    refine ⟨Nat.zero_le _, fun F nF => ?_⟩
    have e0 : Ex H (upd H F (.lst [])) := ex_new nF
    refine ⟨_, rfl, c, _, rfl, (hc.ex e0).rd, fun S nS => ?_⟩
    have nSH := ex_none e0 nS
    have nSF : S ≠ F := fun e => by
      rw [e, upd_same] at nS
      cases nS
    refine ⟨_, rfl, g, C, dx, _, _, rfl, (e0.trans (ex_new nS)) _ _ hg, T.cl, T.nNodes, flds_nodes _ _ _, _, rfl, by omega, by omega, ?_⟩
    rw [show ((rows.length : Nat) : Int).toNat = rows.length from Int.toNat_natCast _]
    refine for_range (fun i σ' H' => ∃ (d : List Nat) (xs : List V) (o1 o2 : Option V), σ' = [some (.ref g), some (.ref c), some (.ref F), some (.ref S), o1, o2] ∧ Ex H H' ∧ H' S = some (.lst (nL d)) ∧ d.length ≤ X.length + i * rows.length ∧ Dn (gr rows) X i d ∧
        H' F = some (.lst xs) ∧ Paired (fun v l => ∃ a, v = .ref a ∧ a ≠ F ∧ a ≠ S ∧ H' a = some (.lst (nL l))) xs (partsTo (gr rows) rows.length X i))
      ⟨X, [], none, none, rfl, e0.trans (ex_new nS), upd_same, by omega, fun v => ⟨.inl, fun z => z.elim id fun ⟨u, h1, _⟩ => absurd h1 (Nat.not_lt_zero _)⟩, by rw [upd_ne nSF.symm, upd_same], .nil⟩ (fun i σ' H' hi hP => ?_) (fun σ' H' hP => ?_)
    · obtain ⟨d, xs, o1, o2, rfl, e1, hS, hdl, hD, hF, hp⟩ := hP
      have hil : i * rows.length + rows.length ≤ 1000000 := by
        have : (i + 1) * rows.length ≤ 1000 * 1000 := Nat.mul_le_mul (by omega) hn
        rw [Nat.succ_mul] at this
        exact this
      refine ⟨_, rfl, _, rfl, S, _, rfl, .inl (in2 hS), rfl, nL_flat _, _, rfl, ?_⟩
      rw [show (V.int (0 + (i : Int))) = nI i by unfold nI; rw [Int.zero_add], inV_nL]
      refine ite2 (fun c1 => ?_) (fun c1 => ?_)
      · have hid : i ∉ d := by simpa using c1
        have f := hD.fst.mpr hid
        refine ⟨_, rfl, _, rfl, _, rfl, g, c, i, rows, X, rfl, hG.ex e1, ok, hn, hi, hc.ex e1, fun H2 p e2 np hp2 => ?_⟩
        have npF : p ≠ F := fun e => by
          rw [e, hF] at np
          cases np
        have npS : p ≠ S := fun e => by
          rw [e, hS] at np
          cases np
        refine ⟨_, rfl, .inl ⟨rfl, _, in2 (e2 _ _ hF)⟩, _, rfl, F, xs, _, rfl, rfl, e2 _ _ hF, ?_, ?_⟩
        · have hl : xs.length = (partsTo (gr rows) rows.length X i).length := Paired.length hp
          have : (partsTo (gr rows) rows.length X i).length ≤ i := by
            unfold partsTo
            rw [List.length_map]
            have := List.length_filter_le (fun v => @decide (Fst (gr rows) X v) (Classical.propDecidable _)) (List.range i)
            rw [List.length_range] at this
            exact this
          exact smallT (by omega)
        · have hS2 : (upd H2 F (.lst (xs ++ [.ref p]))) S = some (.lst (nL d)) := by
            rw [upd_ne nSF]
            exact e2 _ _ hS
          have hp3 : (upd H2 F (.lst (xs ++ [.ref p]))) p = some (.lst (nL (comp (gr rows) rows.length X i))) := by
            rw [upd_ne npF]
            exact hp2
          refine ⟨_, rfl, .inl ⟨rfl, _, in2 hS2⟩, _, rfl, S, p, _, _, rfl, rfl, hS2, hp3, ?_, ?_⟩
          · rw [nL_len, nL_len]
            have := K67M.comp_len (G := gr rows) (n := rows.length) (X := X) (s := i)
            exact small (by omega)
          · refine ⟨d ++ comp (gr rows) rows.length X i, xs ++ [.ref p], _, _, rfl, ex_mut (ex_mut (e1.trans e2) nF) nSH, by rw [upd_same, nL_app], ?_, hD.yes ok hi f, by rw [upd_ne nSF.symm, upd_same], ?_⟩
            · rw [List.length_append]
              have := K67M.comp_len (G := gr rows) (n := rows.length) (X := X) (s := i)
              have : (i + 1) * rows.length = i * rows.length + rows.length := Nat.succ_mul _ _
              omega
            · rw [partsTo_yes f]
              refine paired_app (L2.Paired.mapP hp fun v l z => ?_) (paired_one ⟨p, rfl, npF, npS, by rw [upd_ne npS]; exact hp3⟩)
              obtain ⟨a, ea, n1, n2, ha⟩ := z
              exact ⟨a, ea, n1, n2, by rw [upd_ne n2, upd_ne n1]; exact e2 _ _ ha⟩
      · have hid : i ∈ d := by simpa using c1
        have f : ¬ Fst (gr rows) X i := fun z => (hD.fst.mp z) hid
        refine ⟨d, xs, _, _, rfl, e1, hS, ?_, hD.no ok f, hF, by rw [partsTo_no f]; exact hp⟩
        have : (i + 1) * rows.length = i * rows.length + rows.length := Nat.succ_mul _ _
        omega
    · obtain ⟨d, xs, o1, o2, rfl, e1, hS, hdl, hD, hF, hp⟩ := hP
      refine ⟨_, rfl, q H' F e1 ⟨xs, hF, L2.Paired.mapP hp fun v l z => ?_⟩⟩
      obtain ⟨a, ea, _, _, ha⟩ := z
      exact ⟨a, ea, ha⟩
end
end K67
set_option Elab.async false
set_option linter.all false
set_option maxRecDepth 100000
set_option maxHeartbeats 2000000
namespace K67
open PySem PySem.Spec PyProof.Rows L2
open K67M (Gr comp IsPos Holds Gf Ok Reach srt ins del)
/-! ### comprehensions whose items are tuples, numbers, truth values -/
section
variable {α β : Type} {K : PySem.W.Frag} {a : Addr} {xs : List V} {ds : List α} {j : Nat} {tt : TT} {te : TE} {vs : List Nat} {σ : L2.St} {H1 : Hp} {D : Addr} {Qd : Hp → Prop}
/-- what one turn must give -/
def LcTurn (f : α → Bool) (g : α → β) (S : Hp → V → β → Prop) (tt : TT) (te : TE) (σ : L2.St) (j : Nat) (vs : List Nat) (H1 : Hp) (x : V) (d : α) : Prop :=
  (∀ H2, Ex H1 H2 → ∀ Q' : Bool → Hp → Prop, (∀ H3, Ex H2 H3 → Q' (f d) H3) → tt ((wipe σ vs).set j (some x)) H2 Q') ∧
  (f d = true → ∀ H2, Ex H1 H2 → ∀ Q' : VK, (∀ v H3, Ex H2 H3 → S H3 v (g d) → Q' v H3) → te ((wipe σ vs).set j (some x)) H2 Q')
def LcInv (f : α → Bool) (g : α → β) (S : Hp → V → β → Prop) (ds : List α) (H1 : Hp) (D : Addr) (i : Nat) (H : Hp) : Prop :=
  Ex H1 H ∧ ∃ ys, H D = some (.lst ys) ∧ Paired (S H) ys (((ds.take i).filter f).map g) ∧ ys.length ≤ i
theorem lc_turn {f : α → Bool} {g : α → β} {S : Hp → V → β → Prop} (hS : ∀ (H H' : Hp) (v : V) (b : β), Tm H H' → S H v b → S H' v b) (nD : H1 D = none) {i : Nat} {x : V} {d : α} {H : Hp} (hi : i ≤ 10000000) (hd : ds[i]? = some d)
    (p : LcInv f g S ds H1 D i H) (t : LcTurn f g S tt te σ j vs H1 x d) : tt ((wipe σ vs).set j (some x)) H fun b H3 => if b = true then te ((wipe σ vs).set j (some x)) H3 fun y H4 => ∃ acc, H4 D = some (.lst acc) ∧ acc.length < sizeLine ∧ LcInv f g S ds H1 D (i + 1) (upd H4 D (.lst (acc ++ [y]))) else LcInv f g S ds H1 D (i + 1) H3 := by
  obtain ⟨e, ys, hD, hp, hl⟩ := p
  have tk : ds.take (i + 1) = ds.take i ++ [d] := by
    rw [List.take_add_one, hd]
    rfl
  refine t.1 H e _ fun H3 e3 => ?_
  cases hf : f d with
  | true =>
    refine iteT (t.2 hf H3 (e.trans e3) _ fun v H4 e4 hv => ?_)
    have hD4 := e4 _ _ (e3 _ _ hD)
    refine ⟨ys, hD4, smallT (by omega), ex_mut (e.trans (e3.trans e4)) nD, ys ++ [v], upd_same, ?_, by rw [List.length_append]; exact Nat.succ_le_succ hl⟩
    rw [tk, List.filter_append, List.map_append, List.filter_cons, if_pos hf]
    refine paired_app (L2.Paired.mapP hp fun _ _ z => hS _ _ _ _ ((Tm.of (e3.trans e4)).trans (Tm.updL hD4)) z) (paired_one (hS _ _ _ _ (Tm.updL hD4) hv))
  | false =>
    refine iteF ⟨e.trans e3, ys, e3 _ _ hD, ?_, by omega⟩
    rw [tk, List.filter_append, List.map_append, List.filter_cons, if_neg (by rw [hf]; decide)]
    simp only [List.filter_nil, List.map_nil, List.append_nil]
    exact L2.Paired.mapP hp fun _ _ z => hS _ _ _ _ (Tm.of e3) z
theorem lc_tm (R : V → α → Prop) (f : α → Bool) (g : α → β) (S : Hp → V → β → Prop) (hS : ∀ (H H' : Hp) (v : V) (b : β), Tm H H' → S H v b → S H' v b) (hx : SqL K H1 a xs) (hp : Paired R xs ds) (nD : H1 D = none) (hlen : xs.length ≤ 10000000)
    (wip : ∀ x, wipe ((wipe σ vs).set j (some x)) vs = wipe σ vs) (turn : ∀ x d, x ∈ xs → d ∈ ds → R x d → LcTurn f g S tt te σ j vs H1 x d)
    (fin : ∀ H2 ys, Ex H1 H2 → H2 D = some (.lst ys) → Paired (S H2) ys ((ds.filter f).map g) → Qd H2) :
    ∃ W : Nat → Nat → Hp → Prop, (∃ m, W 0 m (upd H1 D (.lst []))) ∧ ∀ i m H, W i m H →
      ((Itl K a).stop i H ∧ Qd H) ∨ ((Itl K a).go i H ∧ ∃ Nx : Hp → Prop, (∀ H', Nx H' → ∃ m', m' < m ∧ W (i + 1) m' H') ∧ ∀ x H', (Itl K a).yld i H x H' → gName j x (wipe σ vs) H' fun σ2 H2 => wipe σ2 vs = wipe σ vs ∧ tt σ2 H2 fun b H3 =>
        if b = true then te σ2 H3 fun y H4 => ∃ acc, H4 D = some (.lst acc) ∧ acc.length < sizeLine ∧ Nx (upd H4 D (.lst (acc ++ [y]))) else Nx H3) := by
  have hl : xs.length = ds.length := Paired.length hp
  refine lc_list (xs := xs) (LcInv f g S ds H1 D) ⟨ex_new nD, [], upd_same, .nil, Nat.le_refl _⟩ (fun i H _ p => Evl.ex_l p.1 hx) (fun i x H hi p => ⟨wip x, ?_⟩) fun H p => ?_
  · obtain ⟨d, hd, r⟩ := paired_get hp hi
    have : i < xs.length := (List.getElem?_eq_some_iff.mp hi).1
    exact lc_turn (S := S) hS nD (by omega) hd p (turn x d (List.mem_of_getElem? hi) (List.mem_of_getElem? hd) r)
  · obtain ⟨e, ys, hD, h2, _⟩ := p
    rw [hl, List.take_length] at h2
    exact fin H ys e hD h2
theorem lc_tmT (R : V → α → Prop) (f : α → Bool) (g : α → β) (S : Hp → V → β → Prop) (hS : ∀ (H H' : Hp) (v : V) (b : β), Tm H H' → S H v b → S H' v b) (hx : SqT K H1 a xs) (hp : Paired R xs ds) (nD : H1 D = none) (hlen : xs.length ≤ 10000000)
    (wip : ∀ x, wipe ((wipe σ vs).set j (some x)) vs = wipe σ vs) (turn : ∀ x d, x ∈ xs → d ∈ ds → R x d → LcTurn f g S tt te σ j vs H1 x d)
    (fin : ∀ H2 ys, Ex H1 H2 → H2 D = some (.lst ys) → Paired (S H2) ys ((ds.filter f).map g) → Qd H2) :
    ∃ W : Nat → Nat → Hp → Prop, (∃ m, W 0 m (upd H1 D (.lst []))) ∧ ∀ i m H, W i m H →
      ((Itt K a).stop i H ∧ Qd H) ∨ ((Itt K a).go i H ∧ ∃ Nx : Hp → Prop, (∀ H', Nx H' → ∃ m', m' < m ∧ W (i + 1) m' H') ∧ ∀ x H', (Itt K a).yld i H x H' → gName j x (wipe σ vs) H' fun σ2 H2 => wipe σ2 vs = wipe σ vs ∧ tt σ2 H2 fun b H3 =>
        if b = true then te σ2 H3 fun y H4 => ∃ acc, H4 D = some (.lst acc) ∧ acc.length < sizeLine ∧ Nx (upd H4 D (.lst (acc ++ [y]))) else Nx H3) := by
  have hl : xs.length = ds.length := Paired.length hp
  refine lc_tup (xs := xs) (LcInv f g S ds H1 D) ⟨ex_new nD, [], upd_same, .nil, Nat.le_refl _⟩ (fun i H _ p => Evl.ex_t p.1 hx) (fun i x H hi p => ⟨wip x, ?_⟩) fun H p => ?_
  · obtain ⟨d, hd, r⟩ := paired_get hp hi
    have : i < xs.length := (List.getElem?_eq_some_iff.mp hi).1
    exact lc_turn (S := S) hS nD (by omega) hd p (turn x d (List.mem_of_getElem? hi) (List.mem_of_getElem? hd) r)
  · obtain ⟨e, ys, hD, h2, _⟩ := p
    rw [hl, List.take_length] at h2
    exact fin H ys e hD h2
/-- over range(lo, lo + n) -/
theorem lc_tmR {lo : Int} {n : Nat} (f : Nat → Bool) (g : Nat → β) (S : Hp → V → β → Prop) (hS : ∀ (H H' : Hp) (v : V) (b : β), Tm H H' → S H v b → S H' v b) (nD : H1 D = none) (hlen : n ≤ 10000000)
    (wip : ∀ x, wipe ((wipe σ vs).set j (some x)) vs = wipe σ vs) (turn : ∀ i, i < n → LcTurn f g S tt te σ j vs H1 (.int (lo + (i : Int))) i)
    (fin : ∀ H2 ys, Ex H1 H2 → H2 D = some (.lst ys) → Paired (S H2) ys (((List.range n).filter f).map g) → Qd H2) :
    ∃ W : Nat → Nat → Hp → Prop, (∃ m, W 0 m (upd H1 D (.lst []))) ∧ ∀ i m H, W i m H →
      ((Itr lo n).stop i H ∧ Qd H) ∨ ((Itr lo n).go i H ∧ ∃ Nx : Hp → Prop, (∀ H', Nx H' → ∃ m', m' < m ∧ W (i + 1) m' H') ∧ ∀ x H', (Itr lo n).yld i H x H' → gName j x (wipe σ vs) H' fun σ2 H2 => wipe σ2 vs = wipe σ vs ∧ tt σ2 H2 fun b H3 =>
        if b = true then te σ2 H3 fun y H4 => ∃ acc, H4 D = some (.lst acc) ∧ acc.length < sizeLine ∧ Nx (upd H4 D (.lst (acc ++ [y]))) else Nx H3) := by
  refine lc_range (LcInv f g S (List.range n) H1 D) ⟨ex_new nD, [], upd_same, .nil, Nat.le_refl _⟩ (fun i H hi p => ⟨wip _, ?_⟩) fun H p => ?_
  · exact lc_turn (S := S) hS nD (by omega) (List.getElem?_range hi) p (turn i hi)
  · obtain ⟨e, ys, hD, h2, _⟩ := p
    rw [List.take_of_length_le (by rw [List.length_range]; exact Nat.le_refl _)] at h2
    exact fin H ys e hD h2
end
/-- no test -/
theorem lc_all {α β : Type} {g : α → β} {S : Hp → V → β → Prop} {te : TE} {σ : L2.St} {j : Nat} {vs : List Nat} {H1 : Hp} {x : V} {d : α}
    (h : ∀ H2, Ex H1 H2 → ∀ Q' : VK, (∀ v H3, Ex H2 H3 → S H3 v (g d) → Q' v H3) → te ((wipe σ vs).set j (some x)) H2 Q') : LcTurn (fun _ => true) g S tYes te σ j vs H1 x d :=
  ⟨fun H2 _ _ q => q H2 (Evl.Ex.refl H2), fun _ => h⟩
theorem filter_true {α : Type} (l : List α) : (l.filter fun _ => true) = l := List.filter_eq_self.mpr fun _ _ => rfl
/-! ### the order of positions -/
def encI (l : List Nat) : List PyData := l.map fun n : Nat => PyData.int (n : Int)
def encP (p : K67M.Pos) : PyData := .tuple [.tuple (encI p.1), .tuple (encI p.2)]
abbrev posLe : K67M.Pos → K67M.Pos → Bool := PySem.W.dataLe false encP
def psort (ps : List K67M.Pos) : List K67M.Pos := ps.mergeSort posLe
theorem alikeI : ∀ l m : List Nat, PySem.W.alikeAll (encI l) (encI m) = true
  | [], _ => by
    unfold encI
    rw [List.map_nil, PySem.W.alikeAll]
  | _ :: _, [] => by
    unfold encI
    rw [List.map_nil, List.map_cons, PySem.W.alikeAll]
  | a :: l, b :: m => by
    have ih := alikeI l m
    unfold encI at ih ⊢
    rw [List.map_cons, List.map_cons, PySem.W.alikeAll, ih, PySem.W.alike]
    rfl
theorem alikeP (p q : K67M.Pos) : PySem.W.alike (encP p) (encP q) = true := by
  unfold encP
  simp only [PySem.W.alike, PySem.W.alikeAll, alikeI, Bool.and_self]
theorem toksI : ∀ {l m : List Nat} {r r' : List (Int ⊕ List Nat)}, PySem.W.keyToksAll (encI l) ++ r = PySem.W.keyToksAll (encI m) ++ r' → l = m ∧ r = r'
  | [], [], r, r', h => by
    unfold encI at h
    rw [List.map_nil, PySem.W.keyToksAll] at h
    exact ⟨rfl, (List.cons.inj h).2⟩
  | [], b :: m, r, r', h => by
    unfold encI at h
    rw [List.map_nil, List.map_cons, PySem.W.keyToksAll, PySem.W.keyToksAll] at h
    have := (List.cons.inj h).1
    cases this
  | a :: l, [], r, r', h => by
    unfold encI at h
    rw [List.map_nil, List.map_cons, PySem.W.keyToksAll, PySem.W.keyToksAll] at h
    have := (List.cons.inj h).1
    cases this
  | a :: l, b :: m, r, r', h => by
    unfold encI at h
    rw [List.map_cons, List.map_cons, PySem.W.keyToksAll, PySem.W.keyToksAll, PySem.W.keyToks, PySem.W.keyToks] at h
    have h2 := (List.cons.inj h).2
    have h3 := (List.cons.inj h2).1
    have h4 := (List.cons.inj h2).2
    have e : (a : Int) = (b : Int) := Sum.inl.inj h3
    obtain ⟨e1, e2⟩ := toksI (l := l) (m := m) h4
    exact ⟨by rw [e1, Int.ofNat.inj e], e2⟩
theorem toksP {p q : K67M.Pos} (h : PySem.W.keyToks (encP p) = PySem.W.keyToks (encP q)) : p = q := by
  unfold encP at h
  simp only [PySem.W.keyToks, PySem.W.keyToksAll] at h
  obtain ⟨e1, e2⟩ := toksI (List.cons.inj h).2
  obtain ⟨e3, _⟩ := toksI (List.cons.inj e2).2
  exact Prod.ext e1 e3
theorem posLe_def (p q : K67M.Pos) : posLe p q = !PySem.W.dataLt (encP q) (encP p) := rfl
theorem posLe_total : PySem.W.TotalLe posLe := PySem.W.sortLe_total _ _ _
theorem posLe_anti {p q : K67M.Pos} (h1 : posLe p q = true) (h2 : posLe q p = true) : p = q := by
  rw [posLe_def, Bool.not_eq_true'] at h1 h2
  exact toksP (PyProof.Rows.lex_total _ _ h2 h1)
theorem psort_perm (ps : List K67M.Pos) : (psort ps).Perm ps := List.mergeSort_perm _ _
theorem psort_le (ps : List K67M.Pos) : (psort ps).Pairwise fun p q => posLe p q = true := PySem.W.sort_pairwise posLe_total ps
theorem psort_eq {ps qs : List K67M.Pos} (h : ps.Perm qs) : psort ps = psort qs :=
  K67M.perm_sorted (fun _ _ a b => posLe_anti a b) (((psort_perm ps).trans h).trans (psort_perm qs).symm) (psort_le ps) (psort_le qs)
theorem perm_of_mem {α : Type} [DecidableEq α] : ∀ {l m : List α}, l.Nodup → m.Nodup → (∀ x, x ∈ l ↔ x ∈ m) → l.Perm m
  | [], m, _, _, h => by
    cases m with
    | nil => exact .refl _
    | cons b m => exact absurd ((h b).mpr List.mem_cons_self) (by simp)
  | a :: l, m, hl, hm, h => by
    rw [List.nodup_cons] at hl
    have ha := (h a).mp List.mem_cons_self
    refine .trans (.cons a (perm_of_mem (m := m.erase a) hl.2 (hm.erase a) fun x => ?_)) (List.perm_cons_erase ha).symm
    rw [hm.mem_erase_iff]
    constructor
    · intro hx
      exact ⟨fun e => by subst e; exact hl.1 hx, (h x).mp (List.mem_cons_of_mem _ hx)⟩
    · rintro ⟨ne, hx⟩
      exact (List.mem_cons.mp ((h x).mpr hx)).resolve_left ne
theorem dpI {K : PySem.W.Frag} {H : Hp} : ∀ l : List Nat, DpAll K H (nL l) (encI l)
  | [] => .nil
  | a :: l => .cons (.int _) (dpI l)
theorem dpT {K : PySem.W.Frag} {H : Hp} {v : V} {l : List Nat} (h : TupN H v l) : Dp K H v (.tuple (encI l)) := by
  obtain ⟨a, rfl, e⟩ := h
  exact .tup (in3 e) (dpI l)
theorem dpP {K : PySem.W.Frag} {H : Hp} {v : V} {p : K67M.Pos} (h : PosV H v p) : Dp K H v (encP p) := by
  obtain ⟨q, a, b, rfl, e1, e2, e3⟩ := h
  exact .tup (in3 e1) (.cons (.tup (in3 e2) (dpI _)) (.cons (.tup (in3 e3) (dpI _)) .nil))
theorem depthI : ∀ l : List Nat, PyData.depthAll (encI l) ≤ 1
  | [] => by
    unfold encI
    rw [List.map_nil, PyData.depthAll]
    omega
  | a :: l => by
    have := depthI l
    unfold encI at this ⊢
    rw [List.map_cons, PyData.depthAll]
    simp only [PyData.depth]
    omega
theorem depthP (p : K67M.Pos) : (encP p).depth ≤ 40 := by
  have h1 := depthI p.1
  have h2 := depthI p.2
  unfold encP
  simp only [PyData.depth, PyData.depthAll]
  omega
theorem sortP_read {X : Cx} {H : Hp} {a : Addr} {xs : List V} {ps : List K67M.Pos} {Q : VK} (hu : X.A.units + 64 < cLine) (h : H a = some (.lst xs)) (hp : Paired (PosV H) xs ps)
    (q : ∀ ys p, Paired (PosV H) ys (psort ps) → H p = none → Q (.ref p) (upd H p (.lst ys))) : (X.A.units + 64 < cLine) ∧ rSortD encP X.K [.ref a] H Q := by
  obtain ⟨zs, rfl, rfl, hz⟩ := paired_zip hp
  refine ⟨hu, a, zs, rfl, in2 h, fun z hz' => dpP (hz z hz'), ?_, .inl ?_, fun z _ => depthP z.2, fun p np => q _ p ?_ np⟩
  · intro d hd d' hd'
    obtain ⟨z, _, rfl⟩ := List.mem_map.mp hd
    obtain ⟨z', _, rfl⟩ := List.mem_map.mp hd'
    exact alikeP _ _
  · intro d hd
    obtain ⟨z, _, rfl⟩ := List.mem_map.mp hd
    exact ⟨_, _, rfl⟩
  · have e : psort (zs.map (·.2)) = (zs.mergeSort (PySem.W.dataLe false fun z => encP z.2)).map (·.2) := (PySem.W.sort_maps (fun z : V × K67M.Pos => z.2) (r := PySem.W.dataLe false fun z : V × K67M.Pos => encP z.2) (s := posLe) fun _ _ _ _ => rfl).symm
    rw [e]
    exact paired_map _ _ fun z hz' => hz z ((List.mergeSort_perm _ _).mem_iff.mp hz')
end K67
set_option Elab.async false
set_option linter.all false
set_option maxRecDepth 100000
set_option maxHeartbeats 2000000
namespace K67
open PySem PySem.Spec PyProof.Rows L2
open K67M (Gr comp IsPos Holds Gf Ok Reach srt ins del)
/-! ### comprehensions whose items are new lists -/
section
variable {α : Type} {K : PySem.W.Frag} {a : Addr} {xs : List V} {ds : List α} {j : Nat} {te : TE} {vs : List Nat} {σ : L2.St} {H1 : Hp} {D : Addr} {Qd : Hp → Prop}
def NewL (H1 : Hp) (D : Addr) (H : Hp) (v : V) (l : List Nat) : Prop := ∃ p, v = .ref p ∧ H1 p = none ∧ p ≠ D ∧ H p = some (.lst (nL l))
def LlTurn (g : α → List Nat) (te : TE) (σ : L2.St) (j : Nat) (vs : List Nat) (H1 : Hp) (x : V) (d : α) : Prop :=
  ∀ H2, Ex H1 H2 → ∀ Q' : VK, (∀ p H3, Ex H2 H3 → H2 p = none → H3 p = some (.lst (nL (g d))) → Q' (.ref p) H3) → te ((wipe σ vs).set j (some x)) H2 Q'
def LlInv (g : α → List Nat) (ds : List α) (H1 : Hp) (D : Addr) (i : Nat) (H : Hp) : Prop :=
  Ex H1 H ∧ ∃ ys, H D = some (.lst ys) ∧ Paired (NewL H1 D H) ys ((ds.take i).map g) ∧ ys.length ≤ i ∧ ys.Nodup
theorem ll_turn {g : α → List Nat} (nD : H1 D = none) {i : Nat} {x : V} {d : α} {H : Hp} (hi : i ≤ 10000000) (hd : ds[i]? = some d)
    (p : LlInv g ds H1 D i H) (t : LlTurn g te σ j vs H1 x d) : tYes ((wipe σ vs).set j (some x)) H fun b H3 => if b = true then te ((wipe σ vs).set j (some x)) H3 fun y H4 => ∃ acc, H4 D = some (.lst acc) ∧ acc.length < sizeLine ∧ LlInv g ds H1 D (i + 1) (upd H4 D (.lst (acc ++ [y]))) else LlInv g ds H1 D (i + 1) H3 := by
  obtain ⟨e, ys, hD, hp, hl, nd⟩ := p
  have tk : ds.take (i + 1) = ds.take i ++ [d] := by
    rw [List.take_add_one, hd]
    rfl
  unfold tYes
  simp only [if_pos]
  refine t H e _ fun p H4 e4 np hv => ?_
  have npD : p ≠ D := fun z => by
    rw [z, hD] at np
    cases np
  refine ⟨ys, e4 _ _ hD, smallT (by omega), ex_mut (e.trans e4) nD, ys ++ [.ref p], upd_same, ?_, by rw [List.length_append]; exact Nat.succ_le_succ hl, ?_⟩
  · rw [tk, List.map_append]
    refine paired_app (L2.Paired.mapP hp fun v l z => ?_) (paired_one ⟨p, rfl, ex_none e np, npD, by rw [upd_ne npD]; exact hv⟩)
    obtain ⟨b, eb, nb, bD, hb⟩ := z
    exact ⟨b, eb, nb, bD, by rw [upd_ne bD]; exact e4 _ _ hb⟩
  · rw [List.nodup_append]
    refine ⟨nd, by simp, fun u hu w hw q => ?_⟩
    rw [List.mem_singleton] at hw
    subst hw
    subst q
    obtain ⟨k, hk, ek⟩ := List.mem_iff_getElem.mp hu
    obtain ⟨l, _, b, eb, _, _, hb⟩ := paired_get hp ((List.getElem?_eq_getElem hk).trans (congrArg some ek))
    cases eb
    rw [hb] at np
    cases np
theorem lc_ll (R : V → α → Prop) (g : α → List Nat) (hx : SqL K H1 a xs) (hp : Paired R xs ds) (nD : H1 D = none) (hlen : xs.length ≤ 10000000)
    (wip : ∀ x, wipe ((wipe σ vs).set j (some x)) vs = wipe σ vs) (turn : ∀ x d, x ∈ xs → d ∈ ds → R x d → LlTurn g te σ j vs H1 x d)
    (fin : ∀ H2 ys, Ex H1 H2 → H2 D = some (.lst ys) → Paired (NewL H1 D H2) ys (ds.map g) → ys.Nodup → Qd H2) :
    ∃ W : Nat → Nat → Hp → Prop, (∃ m, W 0 m (upd H1 D (.lst []))) ∧ ∀ i m H, W i m H →
      ((Itl K a).stop i H ∧ Qd H) ∨ ((Itl K a).go i H ∧ ∃ Nx : Hp → Prop, (∀ H', Nx H' → ∃ m', m' < m ∧ W (i + 1) m' H') ∧ ∀ x H', (Itl K a).yld i H x H' → gName j x (wipe σ vs) H' fun σ2 H2 => wipe σ2 vs = wipe σ vs ∧ tYes σ2 H2 fun b H3 =>
        if b = true then te σ2 H3 fun y H4 => ∃ acc, H4 D = some (.lst acc) ∧ acc.length < sizeLine ∧ Nx (upd H4 D (.lst (acc ++ [y]))) else Nx H3) := by
  have hl : xs.length = ds.length := Paired.length hp
  refine lc_list (xs := xs) (LlInv g ds H1 D) ⟨ex_new nD, [], upd_same, .nil, Nat.le_refl _, List.nodup_nil⟩ (fun i H _ p => Evl.ex_l p.1 hx) (fun i x H hi p => ⟨wip x, ?_⟩) fun H p => ?_
  · obtain ⟨d, hd, r⟩ := paired_get hp hi
    have : i < xs.length := (List.getElem?_eq_some_iff.mp hi).1
    exact ll_turn nD (by omega) hd p (turn x d (List.mem_of_getElem? hi) (List.mem_of_getElem? hd) r)
  · obtain ⟨e, ys, hD, h2, _, nd⟩ := p
    rw [hl, List.take_length] at h2
    exact fin H ys e hD h2 nd
theorem lc_llR {lo : Int} {n : Nat} (g : Nat → List Nat) (nD : H1 D = none) (hlen : n ≤ 10000000)
    (wip : ∀ x, wipe ((wipe σ vs).set j (some x)) vs = wipe σ vs) (turn : ∀ i, i < n → LlTurn g te σ j vs H1 (.int (lo + (i : Int))) i)
    (fin : ∀ H2 ys, Ex H1 H2 → H2 D = some (.lst ys) → Paired (NewL H1 D H2) ys ((List.range n).map g) → ys.Nodup → Qd H2) :
    ∃ W : Nat → Nat → Hp → Prop, (∃ m, W 0 m (upd H1 D (.lst []))) ∧ ∀ i m H, W i m H →
      ((Itr lo n).stop i H ∧ Qd H) ∨ ((Itr lo n).go i H ∧ ∃ Nx : Hp → Prop, (∀ H', Nx H' → ∃ m', m' < m ∧ W (i + 1) m' H') ∧ ∀ x H', (Itr lo n).yld i H x H' → gName j x (wipe σ vs) H' fun σ2 H2 => wipe σ2 vs = wipe σ vs ∧ tYes σ2 H2 fun b H3 =>
        if b = true then te σ2 H3 fun y H4 => ∃ acc, H4 D = some (.lst acc) ∧ acc.length < sizeLine ∧ Nx (upd H4 D (.lst (acc ++ [y]))) else Nx H3) := by
  refine lc_range (LlInv g (List.range n) H1 D) ⟨ex_new nD, [], upd_same, .nil, Nat.le_refl _, List.nodup_nil⟩ (fun i H hi p => ⟨wip _, ?_⟩) fun H p => ?_
  · exact ll_turn nD (by omega) (List.getElem?_range hi) p (turn i hi)
  · obtain ⟨e, ys, hD, h2, _, nd⟩ := p
    rw [List.take_of_length_le (by rw [List.length_range]; exact Nat.le_refl _)] at h2
    exact fin H ys e hD h2 nd
end
theorem seq_set {te : TE} {j : Nat} {b : TS} {D : Ends} {σ : L2.St} {H H' : Hp} {v : V} (h : ∀ Q' : VK, Q' v H' → te σ H Q') (k : b D (σ.set j (some v)) H') : tSeq (tAsg te (gName j)) b D σ H := h _ k
theorem paired_snoc {α β : Type} {R : α → β → Prop} : ∀ {xs : List α} {ys : List β} {y : β}, Paired R xs (ys ++ [y]) → ∃ xs' x, xs = xs' ++ [x] ∧ Paired R xs' ys ∧ R x y
  | _, [], _, .cons r .nil => ⟨[], _, rfl, .nil, r⟩
  | _, _ :: _, _, .cons r t => by
    obtain ⟨xs', x, e, h, q⟩ := paired_snoc t
    exact ⟨_ :: xs', x, by rw [e]; rfl, .cons r h, q⟩
/-! ### the tasks of positions_of -/
def Vld (n k : Nat) (X : List Nat) : Prop := X.Pairwise (· < ·) ∧ (∀ v ∈ X, v < n) ∧ X.length ≤ k
def nxt (X : List Nat) : Nat := match X.getLast? with
  | none => 0
  | some v => v + 1
def kidsN (n : Nat) (X : List Nat) : List (List Nat) := (List.range (n - nxt X)).map fun i => X ++ [nxt X + i]
def kids (n k : Nat) (X : List Nat) : List (List Nat) := if X.length < k then kidsN n X else []
def wt (n : Nat) (X : List Nat) : Nat := 2 ^ (n - nxt X)
def wts (n : Nat) (ts : List (List Nat)) : Nat := (ts.map (wt n)).sum
structure Ts (n k : Nat) (ts dn : List (List Nat)) : Prop where
  vt : ∀ t ∈ ts, Vld n k t
  all : ∀ X, Vld n k X → X ∈ dn ∨ ∃ t ∈ ts, t <+: X
  inc : ts.Pairwise fun a b => ¬ a <+: b ∧ ¬ b <+: a
  off : ∀ d ∈ dn, ∀ t ∈ ts, ¬ t <+: d
  nd : dn.Nodup
  vd : ∀ d ∈ dn, Vld n k d
section
variable {n k : Nat} {X Y : List Nat} {ts dn : List (List Nat)}
theorem nxt_app (v : Nat) : nxt (X ++ [v]) = v + 1 := by
  unfold nxt
  rw [List.getLast?_append]
  rfl
theorem nxt_gt (h : X.Pairwise (· < ·)) : ∀ v ∈ X, v < nxt X := by
  intro v hv
  rcases List.eq_nil_or_concat X with e | ⟨Z, b, e⟩
  · rw [e] at hv
    simp at hv
  · rw [List.concat_eq_append] at e
    subst e
    rw [nxt_app]
    rcases List.mem_append.mp hv with q | q
    · have := (List.pairwise_append.mp h).2.2 v q b (by simp)
      omega
    · rw [List.mem_singleton] at q
      omega
theorem nxt_le (h : Vld n k X) : nxt X ≤ n := by
  rcases List.eq_nil_or_concat X with e | ⟨Z, b, e⟩
  · rw [e]
    exact Nat.zero_le _
  · rw [List.concat_eq_append] at e
    subst e
    rw [nxt_app]
    exact h.2.1 b (by simp)
theorem mem_kidsN {Y : List Nat} : Y ∈ kidsN n X ↔ ∃ v, nxt X ≤ v ∧ v < n ∧ Y = X ++ [v] := by
  unfold kidsN
  rw [List.mem_map]
  constructor
  · rintro ⟨i, hi, rfl⟩
    rw [List.mem_range] at hi
    exact ⟨nxt X + i, by omega, by omega, rfl⟩
  · rintro ⟨v, h1, h2, rfl⟩
    exact ⟨v - nxt X, List.mem_range.mpr (by omega), by rw [Nat.add_sub_cancel' h1]⟩
theorem mem_kids {Y : List Nat} : Y ∈ kids n k X ↔ X.length < k ∧ ∃ v, nxt X ≤ v ∧ v < n ∧ Y = X ++ [v] := by
  unfold kids
  split
  · rename_i h
    rw [mem_kidsN]
    exact ⟨fun q => ⟨h, q⟩, fun q => q.2⟩
  · rename_i h
    exact ⟨fun q => absurd q (by simp), fun q => absurd q.1 h⟩
theorem vld_kid (h : Vld n k X) (hy : Y ∈ kids n k X) : Vld n k Y := by
  obtain ⟨hk, v, h1, h2, rfl⟩ := mem_kids.mp hy
  refine ⟨List.pairwise_append.mpr ⟨h.1, List.pairwise_singleton _ _, fun a ha b hb => ?_⟩, fun u hu => ?_, by rw [List.length_append]; exact hk⟩
  · rw [List.mem_singleton] at hb
    have := nxt_gt h.1 a ha
    omega
  · rcases List.mem_append.mp hu with q | q
    · exact h.2.1 u q
    · rw [List.mem_singleton] at q
      omega
theorem Ts.start : Ts n k [[]] [] := by
  refine ⟨fun t ht => ?_, fun X _ => .inr ⟨[], by simp, List.nil_prefix⟩, List.pairwise_singleton _ _, fun d h => absurd h (by simp), List.nodup_nil, fun d h => absurd h (by simp)⟩
  rw [List.mem_singleton] at ht
  subst ht
  exact ⟨List.Pairwise.nil, fun _ h => absurd h (by simp), Nat.zero_le _⟩
theorem pre_app {A B : List Nat} {v : Nat} (h : (A ++ [v]) <+: B) : A <+: B := (List.prefix_append A [v]).trans h
theorem Ts.step (h : Ts n k (ts ++ [X]) dn) : Ts n k (ts ++ kids n k X) (dn ++ [X]) := by
  have vX : Vld n k X := h.vt X (by simp)
  have inc := List.pairwise_append.mp h.inc
  have iX : ∀ t ∈ ts, ¬ t <+: X ∧ ¬ X <+: t := fun t ht => inc.2.2 t ht X (by simp)
  refine ⟨fun t ht => ?_, fun Y hY => ?_, List.pairwise_append.mpr ⟨inc.1, ?_, fun t ht c hc => ?_⟩, fun d hd t ht => ?_, ?_, fun d hd => (List.mem_append.mp hd).elim (h.vd d) fun z => (List.mem_singleton.mp z) ▸ vX⟩
  · rcases List.mem_append.mp ht with q | q
    · exact h.vt t (List.mem_append_left _ q)
    · exact vld_kid vX q
  · rcases h.all Y hY with q | ⟨t, ht, hp⟩
    · exact .inl (List.mem_append_left _ q)
    · rcases List.mem_append.mp ht with q | q
      · exact .inr ⟨t, List.mem_append_left _ q, hp⟩
      · rw [List.mem_singleton] at q
        subst q
        obtain ⟨Z, e⟩ := hp
        cases Z with
        | nil =>
          rw [List.append_nil] at e
          exact .inl (by rw [e]; simp)
        | cons v Z =>
          subst e
          have p := List.pairwise_append.mp hY.1
          have hl := hY.2.2
          rw [List.length_append, List.length_cons] at hl
          refine .inr ⟨t ++ [v], List.mem_append_right _ (mem_kids.mpr ⟨by omega, v, ?_, hY.2.1 v (by simp), rfl⟩), ⟨Z, by simp⟩⟩
          rcases List.eq_nil_or_concat t with e | ⟨W, b, e⟩
          · rw [e]
            exact Nat.zero_le _
          · rw [List.concat_eq_append] at e
            subst e
            rw [nxt_app]
            exact p.2.2 b (by simp) v (by simp)
  · unfold kids
    split
    · unfold kidsN
      rw [List.pairwise_map]
      refine List.pairwise_lt_range.imp fun {i j} hij => ⟨fun q => ?_, fun q => ?_⟩
      · have := q.eq_of_length (by simp)
        have := List.append_cancel_left this
        have := (List.cons.inj this).1
        omega
      · have := q.eq_of_length (by simp)
        have := List.append_cancel_left this
        have := (List.cons.inj this).1
        omega
    · exact List.Pairwise.nil
  · obtain ⟨_, v, _, _, rfl⟩ := mem_kids.mp hc
    refine ⟨fun q => ?_, fun q => (iX t ht).2 (pre_app q)⟩
    rcases List.prefix_concat_iff.mp q with e | e
    · exact (iX t ht).2 (by rw [e]; exact List.prefix_append _ _)
    · exact (iX t ht).1 e
  · rcases List.mem_append.mp hd with hd | hd
    · rcases List.mem_append.mp ht with q | q
      · exact h.off d hd t (List.mem_append_left _ q)
      · obtain ⟨_, v, _, _, rfl⟩ := mem_kids.mp q
        exact fun z => h.off d hd X (by simp) (pre_app z)
    · rw [List.mem_singleton] at hd
      subst hd
      rcases List.mem_append.mp ht with q | q
      · exact (iX t q).1
      · obtain ⟨_, v, _, _, rfl⟩ := mem_kids.mp q
        intro z
        have := z.length_le
        rw [List.length_append, List.length_singleton] at this
        omega
  · rw [List.nodup_append]
    refine ⟨h.nd, by simp, fun a ha b hb e => ?_⟩
    rw [List.mem_singleton] at hb
    subst hb
    subst e
    exact h.off a ha a (by simp) (List.prefix_refl _)
theorem sum_pow (n c : Nat) : ∀ m, c + m = n → ((List.range m).map fun i => 2 ^ (n - (c + i + 1))).sum + 1 = 2 ^ m := by
  intro m
  induction m generalizing c with
  | zero => intro _; rfl
  | succ m ih =>
    intro h
    rw [List.range_succ_eq_map, List.map_cons, List.sum_cons, List.map_map]
    have h2 := ih (c + 1) (by omega)
    have e : ((fun i => 2 ^ (n - (c + i + 1))) ∘ Nat.succ) = fun i => 2 ^ (n - (c + 1 + i + 1)) := by
      funext i
      show 2 ^ (n - (c + (i + 1) + 1)) = _
      rw [show c + (i + 1) + 1 = c + 1 + i + 1 by omega]
    rw [e]
    have e2 : n - (c + 0 + 1) = m := by omega
    rw [e2, Nat.pow_succ]
    omega
theorem wts_kids (h : nxt X ≤ n) : wts n (kids n k X) + 1 ≤ wt n X := by
  unfold kids
  split
  · unfold wts kidsN
    rw [List.map_map]
    have e : (wt n ∘ fun i => X ++ [nxt X + i]) = fun i => 2 ^ (n - (nxt X + i + 1)) := by
      funext i
      show wt n (X ++ [nxt X + i]) = _
      unfold wt
      rw [nxt_app]
    rw [e, sum_pow n (nxt X) (n - nxt X) (by omega)]
    exact Nat.le_refl _
  · exact Nat.one_le_two_pow
theorem wts_app (a b : List (List Nat)) : wts n (a ++ b) = wts n a + wts n b := by
  unfold wts
  rw [List.map_append, List.sum_append_nat]
theorem wts_len : ∀ ts : List (List Nat), ts.length ≤ wts n ts
  | [] => Nat.zero_le _
  | t :: ts => by
    have := wts_len ts
    have h : wts n (t :: ts) = wt n t + wts n ts := by
      unfold wts
      rw [List.map_cons, List.sum_cons]
    have : 1 ≤ wt n t := Nat.one_le_two_pow
    rw [List.length_cons]
    omega
end
/-- all positions, each once -/
def AllPos (G : Gr) (n k : Nat) (ps : List K67M.Pos) : Prop := ps.Nodup ∧ ∀ p, p ∈ ps ↔ IsPos G n k p
/-- the positions of the searched sets dn -/
def PosOf (G : Gr) (n : Nat) (dn : List (List Nat)) (ps : List K67M.Pos) : Prop := ps.Nodup ∧ (∀ p, p ∈ ps ↔ p.1 ∈ dn ∧ p.2 ∈ parts G n p.1) ∧ ps.length ≤ dn.length * n
theorem PosOf.nil {G : Gr} {n : Nat} : PosOf G n [] [] := ⟨List.nodup_nil, fun p => by simp, by simp⟩
theorem PosOf.add {G : Gr} {n : Nat} {dn : List (List Nat)} {ps : List K67M.Pos} {X : List Nat} (o : Ok n G) (h : PosOf G n dn ps) (hX : X ∉ dn) : PosOf G n (dn ++ [X]) (ps ++ (parts G n X).map fun c => (X, c)) := by
  refine ⟨?_, fun p => ?_, ?_⟩
  · rw [List.nodup_append]
    refine ⟨h.1, ?_, fun a ha b hb e => ?_⟩
    · rw [List.nodup_iff_pairwise_ne, List.pairwise_map]
      exact (List.nodup_iff_pairwise_ne.mp (parts_nodup o)).imp fun ne e => ne (congrArg Prod.snd e)
    · subst e
      obtain ⟨c, _, e⟩ := List.mem_map.mp hb
      have := ((h.2.1 a).mp ha).1
      rw [← e] at this
      exact hX this
  · rw [List.mem_append, h.2.1 p, List.mem_append, List.mem_map, List.mem_singleton]
    constructor
    · rintro (⟨a, b⟩ | ⟨c, hc, rfl⟩)
      · exact ⟨.inl a, b⟩
      · exact ⟨.inr rfl, hc⟩
    · rintro ⟨a | a, b⟩
      · exact .inl ⟨a, b⟩
      · obtain ⟨p1, p2⟩ := p
        subst a
        exact .inr ⟨p2, b, rfl⟩
  · rw [List.length_append, List.length_map, List.length_append, Nat.add_mul]
    have := parts_len (G := G) (n := n) (X := X)
    have := h.2.2
    rw [List.length_singleton, Nat.one_mul]
    omega
theorem PosOf.all {G : Gr} {n k : Nat} {dn : List (List Nat)} {ps : List K67M.Pos} (o : Ok n G) (h : PosOf G n dn ps) (hd : ∀ X, X ∈ dn ↔ Vld n k X) : AllPos G n k ps := by
  refine ⟨h.1, fun p => ?_⟩
  rw [h.2.1 p, hd, mem_parts o]
  constructor
  · rintro ⟨⟨a, b, c⟩, s, h1, h2, h3⟩
    exact ⟨a, b, c, s, h1, h2, h3⟩
  · rintro ⟨a, b, c, s, h1, h2, h3⟩
    exact ⟨⟨a, b, c⟩, s, h1, h2, h3⟩
section
variable {P : Program} {w : World} {K : PySem.W.Frag} {mg : Str → Option Value} {base : Heap} {C CT CB : Addr}
def spPositions (C : Addr) : Sp := fun vs H Q _ => ∃ (g : Addr) (k : Nat) (rows : List (List Nat)), vs = [.ref g, nI k] ∧ GraphAt C H g rows ∧ Ok rows.length (gr rows) ∧ rows.length ≤ 8 ∧
  ∀ H' p ps, Ex H H' → AllPos (gr rows) rows.length k ps → ps.length ≤ 1000000 → H p = none → LOf PosV H' p (psort ps) → Q (.ref p) H'
theorem sc_positions_of : FnScope ["graph", "k", "found", "tasks", "searched", "first", "part", "node"] ["graph", "k"] (defScope (top 19)) := ⟨rfl, rfl, rfl, by decide +kernel, rfl, by decide +kernel, by decide +kernel⟩
theorem cal_positions_of (T : Txt K mg C CT CB) (D : Df K mg "positions_of" 19) (c_parts_without : Cal P w K mg base 2 "parts_without" (spParts C)) : Cal P w K mg base 3 "positions_of" (spPositions C) := by
  refine cal_mk D sc_positions_of (fun _ _ _ _ _ _ us hl => match us, hl with | [_, _], _ => rfl) (fun vs H Q E h => ?_) (fun f cdv A outer s H vs Q E hr h => ?_)
  · obtain ⟨g, k, rows, rfl, _⟩ := h
    rfl
  · obtain ⟨g, k, rows, rfl, hG, ok, hn, q⟩ := h
    obtain ⟨dx, ed, lk, hg, _⟩ := id hG
    refine ⟨_, (pss_cons (ps_set (i := 2) sc_positions_of.nd rfl (.inl rfl) (pe_lst pa_nil))
      (pss_cons (ps_set (i := 3) sc_positions_of.nd rfl (.inl rfl) (pe_lst (pa_cons (pe_lst pa_nil) pa_nil)))
      (pss_cons (ps_while PassesOwn.never (pt_truth (pv 3) (by intro _; rfl)) (pss_cons (ps_set (i := 4) sc_positions_of.nd rfl (.inr rfl) (pe_bm0 PySem.F.plainAttrs_list PySem.F.slot_list_pop PySem.F.type_list_pop mt_pop (pv 3)))
      (pss_cons (ps_expr (pe_bm PySem.F.plainAttrs_list PySem.F.slot_list_extend PySem.F.type_list_extend mt_extend (pv 2) (pa_cons (pe_lc (own := [("part", 6)]) rfl sc_positions_of.nd (pilK K (pe_c c_parts_without hr (by decide) rfl (pa_cons (pv 0) (pa_cons (pv 4) pa_nil)))) (blkOk_by (N := ["graph", "k", "found", "tasks", "searched", "first", "part", "node"]) (sc := defScope (top 19)) (by decide +kernel)) (fun _ _ _ _ _ => (pg_name (i := 6) sc_positions_of.nd rfl (by first | exact .inl rfl | exact .inr rfl))) (fun _ _ _ _ _ => pts_nil) (fun _ _ _ _ _ => (pe_tup (pa_cons (pe_callTy (tupK K) (by rfl) T.ztuple (by decide +kernel) (pa_cons (pv 4) pa_nil)) (pa_cons (pe_callTy (tupK K) (by rfl) T.ztuple (by decide +kernel) (pa_cons (pv 6) pa_nil)) pa_nil))))) pa_nil)))
      (pss_one (ps_if (pt_cmpR op_lt (pe_callB (lenK K) (by rfl) T.zlen PySem.boot_len (pa_cons (pv 4) pa_nil)) (pv 1) (nomark _)) (pss_cons (ps_set (i := 5) sc_positions_of.nd rfl (.inl rfl) (pe_ifExp (pt_truth (pv 4) (by intro _; rfl)) (pe_op op_add (pe_ix (ixLK K) (pv 4) (pe_un un_neg pe_int) (fun _ _ => rfl)) pe_int) pe_int))
      (pss_one (ps_expr (pe_bm PySem.F.plainAttrs_list PySem.F.slot_list_extend PySem.F.type_list_extend mt_extend (pv 3) (pa_cons (pe_lc (own := [("node", 7)]) rfl sc_positions_of.nd (pi_range2 (by rfl) T.zrange (pa_cons (pv 5) (pa_cons (fldK K (pv 0)) pa_nil))) (blkOk_by (N := ["graph", "k", "found", "tasks", "searched", "first", "part", "node"]) (sc := defScope (top 19)) (by decide +kernel)) (fun _ _ _ _ _ => (pg_name (i := 7) sc_positions_of.nd rfl (by first | exact .inl rfl | exact .inr rfl))) (fun _ _ _ _ _ => pts_nil) (fun _ _ _ _ _ => (pe_op op_cat (pv 4) (pe_lst (pa_cons (pv 7) pa_nil))))) pa_nil))))) pss_nil)))))
      (pss_one (ps_ret (pe_callB (cr_sortD encP) (by rfl) T.zsorted (by decide +kernel) (pa_cons (pv 2) pa_nil))))))), ?_⟩
    refine ⟨Nat.zero_le _, fun F nF => ?_⟩
    have e0 : Ex H (upd H F (.lst [])) := ex_new nF
    refine ⟨Nat.zero_le _, fun t0 nt0 => ⟨small (by show 1 ≤ 10000000; decide), fun S nS => ?_⟩⟩
    have e1 : Ex H (upd (upd H F (.lst [])) t0 (.lst [])) := e0.trans (ex_new nt0)
    have nSH := ex_none e1 nS
    have nt0H := ex_none e0 nt0
    have nSF : S ≠ F := fun e => by
      have := (ex_new (o := .lst []) nt0) F _ (upd_same (H := H) (a := F) (o := .lst []))
      rw [e, this] at nS
      cases nS
    have nSt : S ≠ t0 := fun e => by
      rw [e, upd_same] at nS
      cases nS
    have ntF : t0 ≠ F := fun e => by
      rw [e, upd_same] at nt0
      cases nt0
    refine ⟨fun m σ H' => ∃ (tx fx : List V) (ts dn : List (List Nat)) (fp : List K67M.Pos) (o4 o5 o6 o7 : Option V), σ = [some (.ref g), some (nI k), some (.ref F), some (.ref S), o4, o5, o6, o7] ∧ Ex H H' ∧ H' S = some (.lst tx) ∧
        Paired (fun v l => ∃ a, v = .ref a ∧ a ≠ F ∧ a ≠ S ∧ H' a = some (.lst (nL l))) tx ts ∧ H' F = some (.lst fx) ∧ Paired (PosV H') fx fp ∧ Ts rows.length k ts dn ∧ PosOf (gr rows) rows.length dn fp ∧ dn.length + wts rows.length ts ≤ 2 ^ rows.length ∧ m = wts rows.length ts,
      ⟨_, [.ref t0], [], [[]], [], [], none, none, none, none, rfl, e1.trans (ex_new nS), upd_same, paired_one ⟨t0, rfl, ntF, nSt.symm, by rw [upd_ne nSt.symm, upd_same]; rfl⟩, by rw [upd_ne nSF.symm, upd_ne ntF.symm, upd_same], .nil, .start, .nil, ?_, rfl⟩, fun m σ H1 hW => ?_⟩
    · show 0 + wts rows.length [[]] ≤ _
      unfold wts wt
      simp [nxt]
    obtain ⟨tx, fx, ts, dn, fp, o4, o5, o6, o7, rfl, e2, hS, hts, hF, hfp, TS, PO, hsum, rfl⟩ := hW
    have htl : tx.length = ts.length := Paired.length hts
    have h256 : 2 ^ rows.length ≤ 256 := Nat.le_trans (Nat.pow_le_pow_right (by decide) hn) (by decide)
    refine ⟨_, rfl, _, .inl ⟨_, in2 hS, rfl⟩, ?_⟩
    rcases List.eq_nil_or_concat ts with et | ⟨ts', X, et⟩
    · -- the end
      subst et
      cases hts
      refine iteF ⟨_, rfl, ?_⟩
      refine sortP_read hr.units hF hfp fun ys p hy np => ?_
      refine q _ p fp (e2.trans (ex_new np)) (PO.all ok fun X => ?_) (Nat.le_trans PO.2.2 (Nat.le_trans (Nat.mul_le_mul (by omega : dn.length ≤ 256) hn) (by decide))) (ex_none e2 np) ⟨ys, upd_same, L2.Paired.mapP hy fun _ _ z => z.tm (Tm.of (ex_new np))⟩
      exact ⟨fun h => TS.vd X h, fun h => (TS.all X h).elim id fun ⟨t, ht, _⟩ => absurd ht (by simp)⟩
    · rw [List.concat_eq_append] at et
      subst et
      obtain ⟨tx', x, rfl, hp', X0, rfl, aF, aS, hX⟩ := paired_snoc hts
      have hlt : (!(tx' ++ [V.ref X0]).isEmpty) = true := by simp
      rw [hlt]
      have vX : Vld rows.length k X := TS.vt X (by simp)
      have hXl : X.length ≤ rows.length := by
        have := K67M.nodup_sub (m := List.range rows.length) (vX.1.imp fun h => Nat.ne_of_lt h) fun x hx => List.mem_range.mpr (vX.2.1 x hx)
        rw [List.length_range] at this
        exact this
      have hnx : nxt X ≤ rows.length := nxt_le vX
      have hwk := wts_kids (k := k) hnx
      have hwe : wts rows.length (ts' ++ [X]) = wts rows.length ts' + wt rows.length X := by
        rw [wts_app]
        rfl
      have hXd : X ∉ dn := fun z => TS.off X z X (by simp) (List.prefix_refl _)
      have hdl : dn.length ≤ 256 := by omega
      have hfl : fx.length = fp.length := Paired.length hfp
      have hfp8 : fp.length ≤ 256 * 8 := Nat.le_trans PO.2.2 (Nat.mul_le_mul hdl hn)
      have wtl := wts_len (n := rows.length) ts'
      have htl' : tx'.length = ts'.length := Paired.length hp'
      refine iteT ⟨fun σ' H' => ∃ (tx fx : List V) (fp : List K67M.Pos) (o4 o5 o6 o7 : Option V), σ' = [some (.ref g), some (nI k), some (.ref F), some (.ref S), o4, o5, o6, o7] ∧ Ex H H' ∧ H' S = some (.lst tx) ∧
        Paired (fun v l => ∃ a, v = .ref a ∧ a ≠ F ∧ a ≠ S ∧ H' a = some (.lst (nL l))) tx (ts' ++ kids rows.length k X) ∧ H' F = some (.lst fx) ∧ Paired (PosV H') fx fp ∧ PosOf (gr rows) rows.length (dn ++ [X]) fp, fun σ' H' hN => ?_, ?_⟩
      · obtain ⟨tx, fx, fp, o4, o5, o6, o7, rfl, e3, hS3, hts3, hF3, hfp3, PO3⟩ := hN
        refine ⟨_, ?_, tx, fx, _, _, fp, o4, o5, o6, o7, rfl, e3, hS3, hts3, hF3, hfp3, TS.step, PO3, ?_, rfl⟩
        · rw [wts_app, hwe]
          omega
        · rw [wts_app, List.length_append, List.length_singleton]
          omega
      · refine ⟨_, rfl, .inl ⟨rfl, _, in2 hS⟩, S, _, .ref X0, rfl, rfl, hS, by simp, ?_⟩
        rw [List.dropLast_concat]
        have e3 : Ex H (upd H1 S (.lst tx')) := ex_mut e2 nSH
        have hX3 : upd H1 S (.lst tx') X0 = some (.lst (nL X)) := by rw [upd_ne aS]; exact hX
        have hF3 : upd H1 S (.lst tx') F = some (.lst fx) := by rw [upd_ne nSF.symm]; exact hF
        have hS3 : upd H1 S (.lst tx') S = some (.lst tx') := upd_same
        have hfp3 : Paired (PosV (upd H1 S (.lst tx'))) fx fp := L2.Paired.mapP hfp fun _ _ z => z.tm (Tm.updL hS)
        have ht3 : Paired (fun v l => ∃ a, v = .ref a ∧ a ≠ F ∧ a ≠ S ∧ upd H1 S (.lst tx') a = some (.lst (nL l))) tx' ts' := L2.Paired.mapP hp' fun _ _ ⟨a, h1, h2, h3, h4⟩ => ⟨a, h1, h2, h3, by rw [upd_ne h3]; exact h4⟩
        generalize upd H1 S (.lst tx') = H3 at e3 hX3 hF3 hS3 hfp3 ht3 ⊢
        refine ⟨_, rfl, .inl ⟨rfl, _, in2 hF3⟩, _, rfl, _, rfl, g, X0, rows, X, rfl, hG.ex e3, ok, by omega, .inl hX3, by omega, fun H4 p e4 hp4 => ?_⟩
        obtain ⟨pxs, hpl, hpp⟩ := hp4
        refine ⟨p, rfl, ⟨_, in2 hpl⟩, fun D nD => lc_tm (S := PosV) (g := fun c => (X, c)) (f := fun _ => true) (R := fun v l => LstN H4 v l) (fun _ _ _ _ e h => h.tm e) (in2 hpl) hpp nD ?_ (fun _ => rfl) (fun x c hx hc hxc => lc_all fun H5 e5 Q' q' => ?_) fun H5 ys e5 hD hys => ?_⟩
        · have := parts_len (G := gr rows) (n := rows.length) (X := X)
          have : pxs.length = (parts (gr rows) rows.length X).length := Paired.length hpp
          omega
        · obtain ⟨ca, rfl, hca⟩ := hxc
          refine ⟨_, rfl, X0, _, rfl, .inl ⟨in2 (e5 _ _ (e4 _ _ hX3)), fun a na => ?_⟩⟩
          refine ⟨_, rfl, ca, _, rfl, .inl ⟨in2 (ex_new na _ _ (e5 _ _ hca)), fun b nb => ?_⟩⟩
          refine ⟨small (by show 2 ≤ 10000000; decide), fun q2 nq2 => q' _ _ ((ex_new na).trans ((ex_new nb).trans (ex_new nq2))) ?_⟩
          refine ⟨q2, a, b, rfl, upd_same, (ex_new nq2) _ _ ((ex_new nb) _ _ upd_same), (ex_new nq2) _ _ upd_same⟩
        · rw [filter_true] at hys
          have hyl : ys.length = ((parts (gr rows) rows.length X).map fun c => (X, c)).length := Paired.length hys
          rw [List.length_map] at hyl
          have hpl8 := parts_len (G := gr rows) (n := rows.length) (X := X)
          refine ⟨F, D, fx, ys, rfl, rfl, e5 _ _ (e4 _ _ hF3), hD, small (by omega), ?_⟩
          have e35 : Ex H3 H5 := e4.trans e5
          have hS6 : upd H5 F (.lst (fx ++ ys)) S = some (.lst tx') := by rw [upd_ne nSF]; exact e35 _ _ hS3
          have hX6 : upd H5 F (.lst (fx ++ ys)) X0 = some (.lst (nL X)) := by rw [upd_ne aF]; exact e35 _ _ hX3
          have hF6 : upd H5 F (.lst (fx ++ ys)) F = some (.lst (fx ++ ys)) := upd_same
          have e6 : Ex H (upd H5 F (.lst (fx ++ ys))) := ex_mut (e3.trans e35) nF
          have hfp6 : Paired (PosV (upd H5 F (.lst (fx ++ ys)))) (fx ++ ys) (fp ++ (parts (gr rows) rows.length X).map fun c => (X, c)) :=
            paired_app (L2.Paired.mapP hfp3 fun _ _ z => z.tm ((Tm.of e35).trans (Tm.updL (e35 _ _ hF3)))) (L2.Paired.mapP hys fun _ _ z => z.tm (Tm.updL (e35 _ _ hF3)))
          have ht6 : Paired (fun v l => ∃ a, v = .ref a ∧ a ≠ F ∧ a ≠ S ∧ upd H5 F (.lst (fx ++ ys)) a = some (.lst (nL l))) tx' ts' := L2.Paired.mapP ht3 fun _ _ ⟨a, h1, h2, h3, h4⟩ => ⟨a, h1, h2, h3, by rw [upd_ne h2]; exact e35 _ _ h4⟩
          have PO6 := PO.add ok hXd
          generalize upd H5 F (.lst (fx ++ ys)) = H6 at hS6 hX6 hF6 e6 hfp6 ht6 ⊢
          refine ⟨_, rfl, X0, _, rfl, .inl (in2 hX6), _, rfl, _, _, rfl, rfl, _, rfl, ?_⟩
          refine ite2 (fun c1 => ?_) (fun c1 => ?_)
          · have hk : X.length < k := by
              have := of_decide_eq_true c1
              rw [nL_len] at this
              omega
            refine seq_set (v := nI (nxt X)) (H' := H6) (fun Q' q' => ?_) ?_
            · refine ⟨_, rfl, _, .inl ⟨_, in2 hX6, rfl⟩, ?_⟩
              rcases List.eq_nil_or_concat X with ex | ⟨X', z, ex⟩
              · subst ex
                exact iteF q'
              · rw [List.concat_eq_append] at ex
                subst ex
                have hl2 : (!(nL (X' ++ [z])).isEmpty) = true := by rw [nL_app]; simp [nL]
                rw [hl2]
                refine iteT ⟨_, rfl, _, rfl, X0, _, _, nI z, rfl, rfl, in2 hX6, by rw [nL_app]; exact atI_last _ _, _, _, rfl, rfl, ?_⟩
                rw [nxt_app] at q'
                exact q'
            · refine ⟨_, rfl, .inl ⟨rfl, _, in2 hS6⟩, _, rfl, _, rfl, g, C, dx, _, _, rfl, e6 _ _ hg, T.cl, T.nNodes, flds_nodes _ _ _, _, _, rfl, ⟨by omega, by omega, by omega, by omega⟩, fun D2 nD2 => ?_⟩
              rw [show (((rows.length : Nat) : Int) - ((nxt X : Nat) : Int)).toNat = rows.length - nxt X by omega]
              refine lc_llR (g := fun i => X ++ [nxt X + i]) nD2 (by omega) (fun _ => rfl) (fun i hi => fun H7 e7 Q' q' => ?_) fun H7 ys2 e7 hD7 hys7 _ => ?_
              · refine ⟨_, rfl, _, rfl, small (by show 1 ≤ 10000000; decide), fun b nb => ?_⟩
                refine ⟨X0, b, _, _, rfl, rfl, (ex_new nb) _ _ (e7 _ _ hX6), upd_same, small (by rw [nL_len]; show _ + 1 ≤ _; omega), fun p2 np2 => ?_⟩
                refine q' p2 _ ((ex_new nb).trans (ex_new np2)) (ex_none (ex_new nb) np2) ?_
                rw [upd_same, nL_app]
                rfl
              · have hl7 : ys2.length = ((List.range (rows.length - nxt X)).map fun i => X ++ [nxt X + i]).length := Paired.length hys7
                rw [List.length_map, List.length_range] at hl7
                refine ⟨S, D2, tx', ys2, rfl, rfl, e7 _ _ hS6, hD7, small (by omega), ?_⟩
                have hkk : kids rows.length k X = (List.range (rows.length - nxt X)).map fun i => X ++ [nxt X + i] := by
                  unfold kids kidsN
                  rw [if_pos hk]
                refine ⟨tx' ++ ys2, _, _, _, _, _, _, rfl, ex_mut (e6.trans e7) nSH, upd_same, ?_, by rw [upd_ne nSF.symm]; exact e7 _ _ hF6, L2.Paired.mapP hfp6 fun _ _ z => z.tm ((Tm.of e7).trans (Tm.updL (e7 _ _ hS6))), PO6⟩
                rw [hkk]
                refine paired_app (L2.Paired.mapP ht6 fun _ _ ⟨a, h1, h2, h3, h4⟩ => ⟨a, h1, h2, h3, by rw [upd_ne h3]; exact e7 _ _ h4⟩) (L2.Paired.mapP hys7 fun _ _ ⟨a, h1, h2, h3, h4⟩ => ?_)
                have aF7 : a ≠ F := fun z => by
                  rw [z, hF6] at h2
                  cases h2
                have aS7 : a ≠ S := fun z => by
                  rw [z, hS6] at h2
                  cases h2
                exact ⟨a, h1, aF7, aS7, by rw [upd_ne aS7]; exact h4⟩
          · have hk : ¬ X.length < k := fun z => c1 (decide_eq_true (by rw [nL_len]; omega))
            have hkk : kids rows.length k X = [] := by
              unfold kids
              rw [if_neg hk]
            refine ⟨tx', _, _, _, _, _, _, rfl, e6, hS6, ?_, hF6, hfp6, PO6⟩
            rw [hkk, List.append_nil]
            exact ht6
end
end K67
set_option Elab.async false
set_option linter.all false
set_option maxRecDepth 100000
set_option maxHeartbeats 2000000
namespace K67
open PySem PySem.Spec PyProof.Rows L2
open K67M (Gr comp IsPos Holds Gf Ok Reach srt ins del)
/-! ### tables of positions by their searched sets -/
def keyN (l : List Nat) : List Key := l.map fun n : Nat => (Sum.inl (n : Int) : Key)
theorem keyN_kV (l : List Nat) : (keyN l).map kV = nL l := (nL_key l).symm
theorem keyN_inj : ∀ {l m : List Nat}, keyN l = keyN m → l = m
  | [], [], _ => rfl
  | [], _ :: _, h => by cases h
  | _ :: _, [], h => by cases h
  | a :: l, b :: m, h => by
    have h1 : (a : Int) = (b : Int) := Sum.inl.inj (List.cons.inj h).1
    rw [Int.ofNat.inj h1, keyN_inj (List.cons.inj h).2]
def at1 (X : List Nat) (ps : List K67M.Pos) : List (List Nat) := (ps.filter fun p => decide (p.1 = X)).map (·.2)
theorem mem_at1 {X C : List Nat} {ps : List K67M.Pos} : C ∈ at1 X ps ↔ (X, C) ∈ ps := by
  unfold at1
  rw [List.mem_map]
  constructor
  · rintro ⟨p, hp, rfl⟩
    obtain ⟨h1, h2⟩ := List.mem_filter.mp hp
    have : p.1 = X := of_decide_eq_true h2
    subst this
    exact h1
  · intro h
    exact ⟨_, List.mem_filter.mpr ⟨h, decide_eq_true rfl⟩, rfl⟩
theorem at1_len {X : List Nat} {ps : List K67M.Pos} : (at1 X ps).length ≤ ps.length := by
  unfold at1
  rw [List.length_map]
  exact List.length_filter_le _ _
theorem at1_same {X C : List Nat} {ps : List K67M.Pos} : at1 X (ps ++ [(X, C)]) = at1 X ps ++ [C] := by
  unfold at1
  rw [List.filter_append, List.map_append, List.filter_cons, if_pos (decide_eq_true rfl)]
  rfl
theorem at1_other {X Y C : List Nat} {ps : List K67M.Pos} (h : Y ≠ X) : at1 X (ps ++ [(Y, C)]) = at1 X ps := by
  unfold at1
  rw [List.filter_append, List.map_append, List.filter_cons, if_neg (by rw [decide_eq_true_eq]; exact h)]
  simp
def Ent (H : Hp) (o : Option V) (l : List (List Nat)) : Prop := (o = none ∧ l = []) ∨ ∃ a, o = some (.ref a) ∧ LOf TupN H a l
def TblOk (H : Hp) (d : Addr) (ps : List K67M.Pos) : Prop := ∃ kvs : List (List Key × V), H d = some (.dT kvs) ∧ ∀ X, Ent H (valV kvs (keyN X)) (at1 X ps)
theorem TblOk.ex {H H' : Hp} {d : Addr} {ps : List K67M.Pos} (e : Ex H H') (h : TblOk H d ps) : TblOk H' d ps := by
  obtain ⟨kvs, h1, h2⟩ := h
  exact ⟨kvs, e _ _ h1, fun X => (h2 X).imp id fun ⟨a, q1, q2⟩ => ⟨a, q1, q2.ex (fun e z => z.tm (Tm.of e)) e⟩⟩
def EntB (H0 H : Hp) (d : Addr) (o : Option V) (l : List (List Nat)) : Prop := (o = none ∧ l = []) ∨ ∃ a, o = some (.ref a) ∧ a ≠ d ∧ H0 a = none ∧ LOf TupN H a l
structure Tb (H0 H : Hp) (d : Addr) (ps : List K67M.Pos) (kvs : List (List Key × V)) : Prop where
  at_ : H d = some (.dT kvs)
  len : kvs.length ≤ ps.length
  ent : ∀ X, EntB H0 H d (valV kvs (keyN X)) (at1 X ps)
  inj : ∀ X Y a, valV kvs (keyN X) = some (.ref a) → valV kvs (keyN Y) = some (.ref a) → X = Y
section
variable {H0 H : Hp} {d z b : Addr} {ps : List K67M.Pos} {kvs : List (List Key × V)} {X C : List Nat}
theorem Tb.ok (h : Tb H0 H d ps kvs) : TblOk H d ps := ⟨kvs, h.at_, fun X => (h.ent X).imp id fun ⟨a, q1, _, _, q2⟩ => ⟨a, q1, q2⟩⟩
theorem LOf.tup_upd {a c : Addr} {o : HO} {l : List (List Nat)} (h : LOf TupN H a l) (t : Tm H (upd H c o)) (ne : a ≠ c) : LOf TupN (upd H c o) a l := by
  obtain ⟨xs, h1, h2⟩ := h
  exact ⟨xs, by rw [upd_ne ne]; exact h1, L2.Paired.mapP h2 fun _ _ q => q.tm t⟩
theorem Tb.new (h : Tb H0 H d ps kvs) (nz : H z = none) (e0 : Ex H0 H) (hb : H b = some (.tup (nL C))) (hn : valV kvs (keyN X) = none) (nd : H0 d = none) :
    Tb H0 (upd (upd (upd H z (.lst [])) d (.dT (putK kvs (keyN X) (.ref z)))) z (.lst [.ref b])) d (ps ++ [(X, C)]) (putK kvs (keyN X) (.ref z)) := by
  have zd : z ≠ d := fun e => by
    rw [e, h.at_] at nz
    cases nz
  have bz : b ≠ z := fun e => by
    rw [e, nz] at hb
    cases hb
  have bd : b ≠ d := fun e => by
    rw [e, h.at_] at hb
    cases hb
  refine ⟨by rw [upd_ne zd.symm, upd_same], ?_, fun Y => ?_, fun Y Z a hy hz => ?_⟩
  · rw [putK_new _ hn, List.length_append, List.length_append]
    exact Nat.add_le_add_right h.len 1
  · rw [valV_put]
    by_cases e : X = Y
    · subst e
      rw [if_pos rfl, at1_same]
      refine .inr ⟨z, rfl, zd, ex_none e0 nz, [.ref b], upd_same, ?_⟩
      have : at1 X ps = [] := by
        rcases h.ent X with ⟨_, q⟩ | ⟨a, q, _⟩
        · exact q
        · rw [hn] at q
          cases q
      rw [this]
      exact paired_one ⟨b, rfl, by rw [upd_ne bz, upd_ne bd, upd_ne bz]; exact hb⟩
    · rw [if_neg (fun q => e (keyN_inj q).symm), at1_other e]
      refine (h.ent Y).imp id fun ⟨a, q1, q2, q3, q4⟩ => ⟨a, q1, q2, q3, ?_⟩
      have az : a ≠ z := fun e => by
        obtain ⟨xs, q, _⟩ := q4
        rw [e, nz] at q
        cases q
      have t1 : Tm H (upd H z (.lst [])) := Tm.of (ex_new nz)
      have t2 : Tm (upd H z (.lst [])) (upd (upd H z (.lst [])) d (.dT (putK kvs (keyN X) (.ref z)))) := Tm.updD (kvs := kvs) (by rw [upd_ne zd.symm]; exact h.at_)
      exact ((q4.tup_upd t1 az).tup_upd t2 q2).tup_upd (Tm.updL (ys := []) (by rw [upd_ne zd, upd_same])) az
  · rw [valV_put] at hy hz
    by_cases e1 : keyN Y = keyN X
    · by_cases e2 : keyN Z = keyN X
      · rw [keyN_inj e1, keyN_inj e2]
      · rw [if_pos e1] at hy
        rw [if_neg e2] at hz
        cases hy
        rcases h.ent Z with ⟨q, _⟩ | ⟨a, q, _, _, xs, q2, _⟩
        · rw [q] at hz
          cases hz
        · rw [q] at hz
          cases hz
          rw [nz] at q2
          cases q2
    · rw [if_neg e1] at hy
      by_cases e2 : keyN Z = keyN X
      · rw [if_pos e2] at hz
        cases hz
        rcases h.ent Y with ⟨q, _⟩ | ⟨a, q, _, _, xs, q2, _⟩
        · rw [q] at hy
          cases hy
        · rw [q] at hy
          cases hy
          rw [nz] at q2
          cases q2
      · rw [if_neg e2] at hz
        exact h.inj Y Z a hy hz
theorem Tb.there {l : Addr} {xs : List V} (h : Tb H0 H d ps kvs) (nz : H z = none) (hb : H b = some (.tup (nL C))) (hn : valV kvs (keyN X) = some (.ref l)) (hl : H l = some (.lst xs)) :
    Tb H0 (upd (upd H z (.lst [])) l (.lst (xs ++ [.ref b]))) d (ps ++ [(X, C)]) kvs := by
  have zd : z ≠ d := fun e => by
    rw [e, h.at_] at nz
    cases nz
  have lz : l ≠ z := fun e => by
    rw [e, nz] at hl
    cases hl
  have ld : l ≠ d := fun e => by
    rw [e, h.at_] at hl
    cases hl
  have t1 : Tm H (upd H z (.lst [])) := Tm.of (ex_new nz)
  have t2 : Tm (upd H z (.lst [])) (upd (upd H z (.lst [])) l (.lst (xs ++ [.ref b]))) := Tm.updL (ys := xs) (by rw [upd_ne lz]; exact hl)
  refine ⟨by rw [upd_ne ld.symm, upd_ne zd.symm]; exact h.at_, by rw [List.length_append]; exact Nat.le_trans h.len (Nat.le_add_right _ _), fun Y => ?_, h.inj⟩
  by_cases e : X = Y
  · subst e
    rw [at1_same]
    rcases h.ent X with ⟨q, _⟩ | ⟨a, q, q2, q3, ys, q4, q5⟩
    · rw [hn] at q
      cases q
    · rw [hn] at q
      cases q
      rw [hl] at q4
      cases q4
      exact .inr ⟨l, hn, q2, q3, xs ++ [.ref b], upd_same, paired_app (L2.Paired.mapP q5 fun _ _ q => q.tm (t1.trans t2)) (paired_one (TupN.tm (t1.trans t2) ⟨b, rfl, hb⟩))⟩
  · rw [at1_other e]
    refine (h.ent Y).imp id fun ⟨a, q1, q2, q3, q4⟩ => ⟨a, q1, q2, q3, ?_⟩
    have az : a ≠ z := fun e => by
      obtain ⟨xs, q, _⟩ := q4
      rw [e, nz] at q
      cases q
    have al : a ≠ l := fun q => e (h.inj X Y l hn (q ▸ q1))
    exact (q4.tup_upd t1 az).tup_upd t2 al
end
section
variable {P : Program} {w : World} {K : PySem.W.Frag} {mg : Str → Option Value} {base : Heap} {C CT CB : Addr}
def spTable : Sp := fun vs H Q _ => ∃ (a : Addr) (ps : List K67M.Pos), vs = [.ref a] ∧ LOf PosV H a ps ∧ ps.length ≤ 1000000 ∧ ∀ H' d, Ex H H' → TblOk H' d ps → Q (.ref d) H'
theorem sc_table_of : FnScope ["positions", "known", "searched", "part"] ["positions"] (defScope (top 22)) := ⟨rfl, rfl, rfl, by decide +kernel, rfl, by decide +kernel, by decide +kernel⟩
theorem cal_table_of (T : Txt K mg C CT CB) (D : Df K mg "table_of" 22) : Cal P w K mg base 1 "table_of" spTable := by
  refine cal_mk D sc_table_of (fun _ _ _ _ _ _ us hl => match us, hl with | [_], _ => rfl) (fun vs H Q E h => ?_) (fun f cdv A outer s H vs Q E hr h => ?_)
  · obtain ⟨a, ps, rfl, _⟩ := h
    rfl
  · obtain ⟨a, ps, rfl, ⟨xs, ha, hxs⟩, hl, q⟩ := h
    have hu := hu_of hr
    refine ⟨_, (pss_cons (ps_set (i := 1) sc_table_of.nd rfl (.inl rfl) pe_dnewT)
      (pss_cons (ps_for PassesOwn.never rfl (pilK K (pv 0)) (gtupK K rfl (pgs_cons (pg_name (i := 2) sc_table_of.nd rfl (.inl rfl)) (pgs_cons (pg_name (i := 3) sc_table_of.nd rfl (.inl rfl)) pgs_nil))) (pss_one (ps_expr (pe_bm PySem.F.plainAttrs_list PySem.F.slot_list_append PySem.F.type_list_append mt_append (pe_setdef hu (pv 1) (pv 2) (pe_lst pa_nil) ⟨rfl, rfl, rfl, rfl⟩) (pa_cons (pv 3) pa_nil)))))
      (pss_one (ps_ret (pv 1))))), ?_⟩
    refine fun d nd => ?_
    refine ⟨_, rfl, a, rfl, ⟨_, in2 (ex_new nd _ _ ha)⟩, ?_⟩
    have hxl : xs.length = ps.length := Paired.length hxs
    refine for_list (xs := xs) (fun j σ' H' => ∃ (o2 o3 : Option V) (kvs : List (List Key × V)), σ' = [some (.ref a), some (.ref d), o2, o3] ∧ Ex H H' ∧ Tb H H' d (ps.take j) kvs)
      ⟨none, none, [], rfl, ex_new nd, upd_same, Nat.zero_le _, fun X => .inl ⟨rfl, rfl⟩, fun X Y a h => by cases h⟩ (fun j σ' H' _ hP => ?_) (fun j x σ' H' hx hP => ?_) (fun σ' H' hP => ?_)
    · obtain ⟨_, _, _, _, e2, _⟩ := hP
      exact in2 (e2 _ _ ha)
    · obtain ⟨o2, o3, kvs, rfl, e1, tb⟩ := hP
      obtain ⟨p, hp, hpv⟩ := paired_get hxs hx
      obtain ⟨X, C⟩ := p
      obtain ⟨t, pa, pb, rfl, h1, h2, h3⟩ := hpv.tm (Tm.of e1)
      have tk : ps.take (j + 1) = ps.take j ++ [(X, C)] := by
        rw [List.take_add_one, hp]
        rfl
      have hj : j < ps.length := (List.getElem?_eq_some_iff.mp hp).1
      have hkl : kvs.length ≤ j := Nat.le_trans tb.len (by rw [List.length_take]; omega)
      refine ⟨t, _, rfl, in3 h1, rfl, _, _, rfl, _, _, rfl, rfl, ?_⟩
      refine ⟨_, rfl, d, rfl, .inr ⟨kvs, .inl tb.at_⟩, _, rfl, Nat.zero_le _, fun z nz => ?_⟩
      have zd : z ≠ d := fun e => by
        rw [e, tb.at_] at nz
        cases nz
      refine ⟨kvs, keyN X, pa, by rw [upd_ne zd.symm]; exact tb.at_, rfl, by rw [keyN_kV]; exact ex_new nz _ _ h2, smallT (by omega), fun v hv => ?_, fun hv => ?_⟩
      · rcases tb.ent X with ⟨q, _⟩ | ⟨l, q, q2, q3, ys, q4, q5⟩
        · rw [hv] at q
          cases q
        · rw [hv] at q
          cases q
          have hys : ys.length = (at1 X (ps.take j)).length := Paired.length q5
          have := at1_len (X := X) (ps := ps.take j)
          rw [List.length_take] at this
          have hl3 := ex_new (o := .lst []) nz _ _ q4
          refine ⟨.inl ⟨rfl, _, in2 hl3⟩, _, rfl, l, ys, _, rfl, rfl, hl3, smallT (by omega), ?_⟩
          exact ⟨_, _, kvs, rfl, ex_mut (e1.trans (ex_new nz)) q3, by rw [tk]; exact tb.there nz h3 hv q4⟩
      · have hz3 : upd (upd H' z (.lst [])) d (.dT (putK kvs (keyN X) (.ref z))) z = some (.lst []) := by rw [upd_ne zd, upd_same]
        refine ⟨.inl ⟨rfl, _, in2 hz3⟩, _, rfl, z, [], _, rfl, rfl, hz3, by decide, ?_⟩
        exact ⟨_, _, _, rfl, ex_mut (ex_mut (e1.trans (ex_new nz)) nd) (ex_none e1 nz), by rw [tk]; exact tb.new nz e1 h3 hv nd⟩
    · obtain ⟨o2, o3, kvs, rfl, e1, tb⟩ := hP
      rw [hxl, List.take_length] at tb
      exact ⟨_, rfl, q _ d e1 tb.ok⟩
/-! ### shapes, equality -/
theorem canI : ∀ l : List Nat, PyData.canLayAll0 (encI l) = true
  | [] => by
    unfold encI
    rw [List.map_nil, PyData.canLayAll0]
  | a :: l => by
    have ih := canI l
    unfold encI at ih ⊢
    rw [List.map_cons, PyData.canLayAll0, ih, PyData.canLay0]
    rfl
theorem shapedL (l : List Nat) : SeqAt.shaped (.list (encI l)) = true := by
  have h1 := depthI l
  unfold SeqAt.shaped
  rw [PyData.canLay0, canI, Bool.true_and, decide_eq_true_eq, PyData.depth]
  omega
theorem shapedT (l : List Nat) : SeqAt.shaped (.tuple (encI l)) = true := by
  have h1 := depthI l
  unfold SeqAt.shaped
  rw [PyData.canLay0, canI, Bool.true_and, decide_eq_true_eq, PyData.depth]
  omega
def encT (l : List Nat) : PyData := .tuple (encI l)
theorem shapedLT (ls : List (List Nat)) : SeqAt.shaped (.list (ls.map encT)) = true := by
  have h1 : PyData.canLayAll0 (ls.map encT) = true ∧ PyData.depthAll (ls.map encT) ≤ 2 := by
    induction ls with
    | nil =>
      rw [List.map_nil, PyData.canLayAll0, PyData.depthAll]
      exact ⟨rfl, by decide⟩
    | cons a ls ih =>
      have h1 := depthI a
      rw [List.map_cons, PyData.canLayAll0, PyData.depthAll, ih.1]
      unfold encT at ih ⊢
      rw [PyData.canLay0, canI, PyData.depth]
      exact ⟨rfl, by omega⟩
  unfold SeqAt.shaped
  rw [PyData.canLay0, h1.1, Bool.true_and, decide_eq_true_eq, PyData.depth]
  omega
theorem eqvI : ∀ l m : List Nat, PyData.eqvAll (encI l) (encI m) = decide (l = m)
  | [], [] => by
    unfold encI
    rw [List.map_nil, PyData.eqvAll]
    rfl
  | [], _ :: _ => by
    unfold encI
    rw [List.map_nil, List.map_cons, PyData.eqvAll]
    rfl
  | _ :: _, [] => by
    unfold encI
    rw [List.map_nil, List.map_cons, PyData.eqvAll]
    rfl
  | a :: l, b :: m => by
    have ih := eqvI l m
    unfold encI at ih ⊢
    rw [List.map_cons, List.map_cons, PyData.eqvAll, ih, PyData.eqv, Bool.eq_iff_iff]
    simp
    intro _
    omega
/-! ### is_position -/
def spIsPos (C : Addr) : Sp := fun vs H Q _ => ∃ (g : Addr) (k : Nat) (rows : List (List Nat)) (v : V) (p : K67M.Pos), vs = [.ref g, nI k, v] ∧ GraphAt C H g rows ∧ Ok rows.length (gr rows) ∧ rows.length ≤ 8 ∧ PosV H v p ∧ IsPos (gr rows) rows.length k p ∧
  ∀ H', Ex H H' → Q (.bl true) H'
theorem head_comp {G : Gr} {n : Nat} {X : List Nat} {s : Nat} (o : Ok n G) (hs : s < n) (hx : s ∉ X) : ∃ a r, comp G n X s = a :: r ∧ a < n ∧ a ∉ X ∧ comp G n X a = a :: r := by
  cases e : comp G n X s with
  | nil =>
    have := K67M.self_comp (X := X) o hs
    rw [e] at this
    cases this
  | cons a r =>
    have ha : a ∈ comp G n X s := by rw [e]; exact List.mem_cons_self
    have rr := (K67M.mem_comp o hs).mp ha
    exact ⟨a, r, rfl, K67M.comp_lt ha, rr.out hx, by rw [← K67M.comp_eq o hs hx rr, e]⟩
theorem sc_is_position : FnScope ["graph", "k", "value", "nodes", "last", "node", "searched", "part"] ["graph", "k", "value"] (defScope (top 20)) := ⟨rfl, rfl, rfl, by decide +kernel, rfl, by decide +kernel, by decide +kernel⟩
theorem rise_len {n : Nat} {X : List Nat} (h : X.Pairwise (· < ·)) (hv : ∀ v ∈ X, v < n) : X.length ≤ n := by
  have := K67M.nodup_sub (m := List.range n) (h.imp fun h => Nat.ne_of_lt h) fun x hx => List.mem_range.mpr (hv x hx)
  rw [List.length_range] at this
  exact this
/-- the last one before place j -/
def lastTo (l : List Nat) (j : Nat) : Int := match j with
  | 0 => -1
  | i + 1 => ((l.getD i 0 : Nat) : Int)
theorem lastTo_lt {l : List Nat} {j v : Nat} (h : l.Pairwise (· < ·)) (hv : l[j]? = some v) : lastTo l j < (v : Int) := by
  cases j with
  | zero =>
    show (-1 : Int) < v
    omega
  | succ i =>
    show ((l.getD i 0 : Nat) : Int) < _
    obtain ⟨h1, h2⟩ := List.getElem?_eq_some_iff.mp hv
    have h3 : i < l.length := by omega
    have := List.pairwise_iff_getElem.mp h i (i + 1) h3 h1 (Nat.lt_succ_self _)
    rw [List.getD_eq_getElem?_getD, List.getElem?_eq_getElem h3, Option.getD_some]
    omega
theorem cal_is_position (T : Txt K mg C CT CB) (D : Df K mg "is_position" 20) (c_is_index : Cal P w K mg base 2 "is_index" spIdx) (c_reached : Cal P w K mg base 1 "reached" (spReached C)) : Cal P w K mg base 3 "is_position" (spIsPos C) := by
  refine cal_mk D sc_is_position (fun _ _ _ _ _ _ us hl => match us, hl with | [_, _, _], _ => rfl) (fun vs H Q E h => ?_) (fun f cdv A outer s H vs Q E hr h => ?_)
  · obtain ⟨g, k, rows, v, p, rfl, _⟩ := h
    rfl
  · obtain ⟨g, k, rows, v, p, rfl, hG, ok, hn, hpv, hpos, q⟩ := h
    obtain ⟨X, Cc⟩ := p
    obtain ⟨t, a, b, rfl, ht, ha, hb⟩ := id hpv
    obtain ⟨dx, ed, lk, hg, _⟩ := id hG
    obtain ⟨st, hs, hsX, hC⟩ := id hpos.ex
    obtain ⟨c0, cr, hc1, hc2, hc3, hc4⟩ := head_comp ok hs hsX
    have hCr : Cc = c0 :: cr := hC.trans hc1
    have hCp : Cc.Pairwise (· < ·) := by
      rw [show Cc = _ from hC]
      exact K67M.comp_sorted
    have hCn : ∀ v ∈ Cc, v < rows.length := fun v hv => K67M.comp_lt (show v ∈ comp (gr rows) rows.length X st from hC ▸ hv)
    refine ⟨_, (pss_cons (ps_if (PW.pt (pw_or (pt_not (pt_val (pe_callB (isiK K) (by rfl) T.zisinstance (by decide +kernel) (pa_cons (pv 2) (pa_cons (pe_bltn (v := .ty "tuple") (by rfl) T.ztuple (by decide +kernel) rfl) pa_nil))))) (pw_or1 (pt_cmpR op_ne (pe_callB (lenK K) (by rfl) T.zlen PySem.boot_len (pa_cons (pv 2) pa_nil)) pe_int (nomark _))))) (pss_one (ps_ret pe_bl)) pss_nil)
      (pss_cons (ps_for PassesOwn.never rfl (pitK K (pv 2)) (pg_name (i := 3) sc_is_position.nd rfl (.inl rfl)) (pss_cons (ps_if (pt_not (pt_val (pe_callB (isiK K) (by rfl) T.zisinstance (by decide +kernel) (pa_cons (pv 3) (pa_cons (pe_bltn (v := .ty "tuple") (by rfl) T.ztuple (by decide +kernel) rfl) pa_nil))))) (pss_one (ps_ret pe_bl)) pss_nil)
      (pss_cons (ps_set (i := 4) sc_is_position.nd rfl (.inl rfl) (pe_un un_neg pe_int))
      (pss_one (ps_for PassesOwn.never rfl (pitK K (pv 3)) (pg_name (i := 5) sc_is_position.nd rfl (.inl rfl)) (pss_cons (ps_if (PW.pt (pw_or (pt_not (pt_val (pe_c c_is_index hr (by decide) rfl (pa_cons (pv 5) (pa_cons (fldK K (pv 0)) pa_nil))))) (pw_or1 (pt_cmpR op_le (pv 5) (pv 4) (nomark _))))) (pss_one (ps_ret pe_bl)) pss_nil)
      (pss_one (ps_set (i := 4) sc_is_position.nd rfl (.inl rfl) (pv 5)))))))))
      (pss_cons (ps_asg (pv 2) (gtupK K rfl (pgs_cons (pg_name (i := 6) sc_is_position.nd rfl (.inl rfl)) (pgs_cons (pg_name (i := 7) sc_is_position.nd rfl (.inl rfl)) pgs_nil))))
      (pss_cons (ps_if (PW.pt (pw_or (pt_cmpR op_gt (pe_callB (lenK K) (by rfl) T.zlen PySem.boot_len (pa_cons (pv 6) pa_nil)) (pv 1) (nomark _)) (pw_or (pt_not (pt_truth (pv 7) (by intro _; rfl))) (pw_or1 (pt_cmpR (inK K) (pe_ix (ixTK K) (pv 7) pe_int (fun _ _ => rfl)) (pv 6) (by rfl)))))) (pss_one (ps_ret pe_bl)) pss_nil)
      (pss_one (ps_ret (pe_cmpR (op_eqD hr.units) (pe_callTy (lstK K) (by rfl) T.zlist (by decide +kernel) (pa_cons (pv 7) pa_nil)) (pe_c c_reached hr (by decide) rfl (pa_cons (pv 0) (pa_cons (pe_ix (ixTK K) (pv 7) pe_int (fun _ _ => rfl)) (pa_cons (pv 6) pa_nil)))) (nomark _)))))))), ?_⟩
    refine ⟨_, rfl, _, _, _, _, true, rfl, .ty _, ty_tup ht, kit_ty kb_tuple_tuple, true, rfl, iteF ⟨_, rfl, t, _, rfl, .inr (in3 ht), ?_⟩⟩
    refine ⟨rfl, false, rfl, iteF ?_⟩
    refine ⟨_, rfl, t, rfl, ⟨_, in3 ht⟩, ?_⟩
    refine for_tup (xs := [.ref a, .ref b]) (fun j σ' H' => ∃ o3 o4 o5 : Option V, σ' = [some (.ref g), some (nI k), some (.ref t), o3, o4, o5, none, none] ∧ Ex H H') ⟨none, none, none, rfl, .refl H⟩ (fun j σ' H' _ hP => ?_) (fun j x σ' H' hx hP => ?_) (fun σ' H' hP => ?_)
    · obtain ⟨_, _, _, _, e2⟩ := hP
      exact in3 (e2 _ _ ht)
    · obtain ⟨o3, o4, o5, rfl, e1⟩ := hP
      have hxx : ∃ (l : List Nat) (c : Addr), x = .ref c ∧ H c = some (.tup (nL l)) ∧ l.Pairwise (· < ·) ∧ ∀ v ∈ l, v < rows.length := by
        match j, hx with
        | 0, hx => exact ⟨X, a, (Option.some.inj hx).symm, ha, hpos.srt, hpos.lt⟩
        | 1, hx => exact ⟨Cc, b, (Option.some.inj hx).symm, hb, hCp, hCn⟩
      obtain ⟨l, c, rfl, hc, hlp, hln⟩ := hxx
      have hll := rise_len hlp hln
      refine ⟨_, rfl, _, _, _, _, true, rfl, .ty _, ty_tup (e1 _ _ hc), kit_ty kb_tuple_tuple, true, rfl, iteF ⟨1, rfl, ?_⟩⟩
      refine ⟨_, rfl, c, rfl, ⟨_, in3 (e1 _ _ hc)⟩, ?_⟩
      refine for_tup (xs := nL l) (fun i σ' H' => ∃ o5 : Option V, σ' = [some (.ref g), some (nI k), some (.ref t), some (.ref c), some (.int (lastTo l i)), o5, none, none] ∧ Ex H H') ⟨_, rfl, e1⟩ (fun j σ' H' _ hP => ?_) (fun i x σ' H' hx hP => ?_) (fun σ' H' hP => ?_)
      · obtain ⟨_, _, e2⟩ := hP
        exact in3 (e2 _ _ hc)
      · obtain ⟨o5, rfl, e2⟩ := hP
        obtain ⟨y, hy, rfl⟩ := nL_get hx
        have hyn := hln y (List.mem_of_getElem? hy)
        have hlt := lastTo_lt hlp hy
        refine ⟨_, rfl, _, rfl, g, C, dx, _, _, rfl, e2 _ _ hg, T.cl, T.nNodes, flds_nodes _ _ _, (y : Int), (rows.length : Int), rfl, true, congrArg V.bl (decide_eq_true ⟨by omega, by omega⟩), iteF ?_⟩
        refine ⟨_, rfl, _, rfl, _, _, rfl, rfl, false, congrArg V.bl (decide_eq_false (by omega)), iteF ⟨_, rfl, some (nI y), ?_, e2⟩⟩
        have e : lastTo l (i + 1) = (y : Int) := by
          show ((l.getD i 0 : Nat) : Int) = _
          rw [List.getD_eq_getElem?_getD, hy]
          rfl
        rw [e]
        rfl
      · obtain ⟨o5, rfl, e2⟩ := hP
        exact ⟨_, _, _, rfl, e2⟩
    · obtain ⟨o3, o4, o5, rfl, e1⟩ := hP
      subst hCr
      refine ⟨_, rfl, t, _, rfl, in3 (e1 _ _ ht), rfl, _, _, rfl, _, _, rfl, rfl, ?_⟩
      refine ⟨_, rfl, a, _, rfl, .inr (in3 (e1 _ _ ha)), _, rfl, _, _, rfl, rfl, false, congrArg V.bl (decide_eq_false ?_), iteF ?_⟩
      · have := hpos.len
        have e : (nL X).length = X.length := nL_len X
        show ¬ ((k : Int) < ((nL X).length : Int))
        rw [e]
        have : X.length ≤ k := this
        omega
      · refine ⟨_, rfl, _, .inr (.inl ⟨_, in3 (e1 _ _ hb), rfl⟩), iteF ?_⟩
        refine ⟨_, rfl, b, _, _, nI c0, rfl, rfl, in3 (e1 _ _ hb), atI_nat (j := 0) rfl, _, rfl, a, _, rfl, .inr (in3 (e1 _ _ ha)), rfl, nL_flat _, false, ?_, iteF ?_⟩
        · have : inV (nI c0) (nL X) = false := by
            rw [inV_nL]
            exact decide_eq_false hc3
          exact congrArg V.bl this
        · refine ⟨_, rfl, b, _, rfl, .inr (in3 (e1 _ _ hb)), fun l nl => ?_⟩
          have e2 := e1.trans (ex_new (o := .lst (nL (c0 :: cr))) nl)
          refine ⟨_, rfl, _, rfl, b, _, _, nI c0, rfl, rfl, in3 (e2 _ _ hb), atI_nat (j := 0) rfl, _, rfl, g, a, c0, rows, X, rfl, hG.ex e2, ok, by omega, hc2, .inr (e2 _ _ ha), fun H3 p e3 np hp => ?_⟩
          refine ⟨.list (encI (c0 :: cr)), .list (encI (c0 :: cr)), .lst (in2 (e3 _ _ upd_same)) (dpI _), .lst (in2 ?_) (dpI _), shapedL _, shapedL _, ?_⟩
          · rw [hp]
            have : comp (gr rows) rows.length X c0 = c0 :: cr := hc4
            rw [this]
          · rw [PyData.eqv, eqvI, decide_eq_true (rfl : c0 :: cr = c0 :: cr)]
            exact q _ (e2.trans e3)
end
end K67
set_option Elab.async false
set_option linter.all false
set_option maxRecDepth 100000
set_option maxHeartbeats 2000000
namespace K67
open PySem PySem.Spec PyProof.Rows L2
open K67M (Gr comp IsPos Holds Gf Ok Reach srt ins del)
theorem hu65_of {A : Around} {k : Nat} (hr : Room k A) : A.units + 65 < cLine := by
  have := hr.un
  omega
/-! ### what holds asks, node by node -/
section
variable {G : Gr} {n k v c0 : Nat} {X Cc : List Nat} {ps : List K67M.Pos}
def In1 (ps : List K67M.Pos) (X Cc : List Nat) (v : Nat) : Prop := ∃ D, (del v X, D) ∈ ps ∧ ∀ u ∈ Cc, u ∈ D
def In2 (ps : List K67M.Pos) (X Cc : List Nat) (v : Nat) : Prop := ∃ D, (ins v X, D) ∈ ps ∧ ∀ u ∈ D, u ∈ Cc
theorem holds_iff : Holds n k (fun p => p ∈ ps) (X, Cc) ↔ (∀ v ∈ X, In1 ps X Cc v) ∧ (X.length = k ∨ ∀ v, v < n → v ∉ X → In2 ps X Cc v) := Iff.rfl
theorem in1_iff (o : Ok n G) (hps : ∀ q ∈ ps, IsPos G n k q) (hp : IsPos G n k (X, Cc)) (hc : c0 ∈ Cc) : In1 ps X Cc v ↔ comp G n (del v X) c0 ∈ at1 (del v X) ps := by
  rw [mem_at1]
  have hcc := hp.comp_at o hc
  constructor
  · rintro ⟨D, h1, h2⟩
    have := (hps _ h1).comp_at o (h2 c0 hc)
    rw [← this.2.2]
    exact h1
  · intro h
    refine ⟨_, h, fun u hu => ?_⟩
    rw [K67M.mem_comp o hcc.1]
    rw [hcc.2.2, K67M.mem_comp o hcc.1] at hu
    exact hu.mono fun x hx => (K67M.mem_del.mp hx).1
theorem in2_iff (o : Ok n G) (hps : ∀ q ∈ ps, IsPos G n k q) : In2 ps X Cc v ↔ ∃ D ∈ at1 (ins v X) ps, (∃ e r, D = e :: r ∧ e ∈ Cc) ∧ v ∉ D ∧ ∀ u ∈ D, u ∈ Cc := by
  constructor
  · rintro ⟨D, h1, h2⟩
    have hD := hps _ h1
    refine ⟨D, mem_at1.mpr h1, ?_, fun z => (hD.comp_at o z).2.1 (K67M.mem_ins.mpr (.inl rfl)), h2⟩
    obtain ⟨u, hu⟩ := hD.ne o
    cases D with
    | nil => cases hu
    | cons e r => exact ⟨e, r, rfl, h2 e List.mem_cons_self⟩
  · rintro ⟨D, h1, _, _, h2⟩
    exact ⟨D, mem_at1.mp h1, h2⟩
end
theorem nL_paired : ∀ l : List Nat, Paired (fun (v : V) (n : Nat) => v = nI n) (nL l) l
  | [] => .nil
  | _ :: l => .cons rfl (nL_paired l)
theorem paired_nL : ∀ {xs : List V} {l : List Nat}, Paired (fun (v : V) (n : Nat) => v = nI n) xs l → xs = nL l
  | _, _, .nil => rfl
  | _, _, .cons e t => by
    rw [e, paired_nL t]
    rfl
theorem paired_bl : ∀ {xs : List V} {l : List Bool}, Paired (fun (v : V) (b : Bool) => v = .bl b) xs l → xs = l.map V.bl
  | _, _, .nil => rfl
  | _, _, .cons e t => by
    rw [e, paired_bl t]
    rfl
theorem catA_read {K : PySem.W.Frag} {H : Hp} {a b : Addr} {xs ys : List V} {Q : VK} (ha : H a = some (.tup xs)) (hb : H b = some (.tup ys)) (hy : ys ≠ []) (hl : xs.length + ys.length ≤ 10000000)
    (q : ∀ c H', Ex H H' → H' c = some (.tup (xs ++ ys)) → Q (.ref c) H') : rCatA K (.ref a) (.ref b) H Q := by
  refine ⟨a, b, xs, ys, rfl, rfl, in3 ha, in3 hb, small hl, fun e => ?_, fun _ e => absurd e hy, fun _ _ p np => q p _ (ex_new np) upd_same⟩
  subst e
  exact q b H (.refl H) hb
theorem eqvT (a b : List Nat) : PyData.eqv (encT a) (encT b) = decide (a = b) := by
  unfold encT
  rw [PyData.eqv, eqvI]
theorem any_eqvT (c : List Nat) (ls : List (List Nat)) : ((ls.map encT).any fun z => PyData.eqv z (encT c)) = decide (c ∈ ls) := by
  rw [List.any_map, Bool.eq_iff_iff, List.any_eq_true, decide_eq_true_eq]
  constructor
  · rintro ⟨x, hx, e⟩
    have e2 : PyData.eqv (encT x) (encT c) = true := e
    rw [eqvT] at e2
    rw [← of_decide_eq_true e2]
    exact hx
  · intro h
    exact ⟨c, h, (eqvT c c).trans (decide_eq_true rfl)⟩
theorem dpLT {K : PySem.W.Frag} {H : Hp} : ∀ {xs : List V} {ls : List (List Nat)}, Paired (TupN H) xs ls → DpAll K H xs (ls.map encT)
  | _, _, .nil => .nil
  | _, _, .cons h t => .cons (dpT h) (dpLT t)
/-- known.get(fewer, []) -/
theorem dget_has {H : Hp} {d a z : Addr} {X : List Nat} {ps : List K67M.Pos} (h : TblOk H d ps) (ha : H a = some (.tup (nL X))) (nz : H z = none) :
    ∃ o b, DGet (upd H z (.lst [])) d (.ref a) o ∧ o.getD (.ref z) = .ref b ∧ LOf TupN (upd H z (.lst [])) b (at1 X ps) := by
  have e := ex_new (o := .lst []) nz
  obtain ⟨kvs, h1, h2⟩ := h
  rcases h2 X with ⟨e1, e2⟩ | ⟨b, e1, e2⟩
  · refine ⟨valV kvs (keyN X), z, .inr ⟨kvs, keyN X, a, .inl (e _ _ h1), rfl, by rw [keyN_kV]; exact e _ _ ha, rfl⟩, by rw [e1]; rfl, ?_⟩
    rw [e2]
    exact ⟨[], upd_same, .nil⟩
  · exact ⟨valV kvs (keyN X), b, .inr ⟨kvs, keyN X, a, .inl (e _ _ h1), rfl, by rw [keyN_kV]; exact e _ _ ha, rfl⟩, by rw [e1]; rfl, e2.ex (fun e z => z.tm (Tm.of e)) e⟩
theorem TblOk.isD {H : Hp} {d : Addr} {ps : List K67M.Pos} (h : TblOk H d ps) : IsD H d := by
  obtain ⟨kvs, h1, _⟩ := h
  exact .inr ⟨kvs, .inl h1⟩
section
variable {P : Program} {w : World} {K : PySem.W.Frag} {mg : Str → Option Value} {base : Heap} {C CT CB : Addr}
def spHolds (C : Addr) : Sp := fun vs H Q _ => ∃ (g d : Addr) (k : Nat) (rows : List (List Nat)) (v : V) (p : K67M.Pos) (ps : List K67M.Pos), vs = [.ref g, nI k, v, .ref d] ∧ GraphAt C H g rows ∧ Ok rows.length (gr rows) ∧ rows.length ≤ 8 ∧ PosV H v p ∧
  IsPos (gr rows) rows.length k p ∧ TblOk H d ps ∧ (∀ q ∈ ps, IsPos (gr rows) rows.length k q) ∧ ps.length ≤ 1000000 ∧ ∀ b H', Ex H H' → (b = true ↔ Holds rows.length k (fun q => q ∈ ps) p) → Q (.bl b) H'
theorem sc_holds : FnScope ["graph", "k", "position", "known", "searched", "part", "node", "fewer", "wider", "more", "within", "other", "one"] ["graph", "k", "position", "known"] (defScope (top 21)) := ⟨rfl, rfl, rfl, by decide +kernel, rfl, by decide +kernel, by decide +kernel⟩
theorem cal_holds (T : Txt K mg C CT CB) (D : Df K mg "holds" 21) (c_reached : Cal P w K mg base 1 "reached" (spReached C)) : Cal P w K mg base 2 "holds" (spHolds C) := by
  refine cal_mk D sc_holds (fun _ _ _ _ _ _ us hl => match us, hl with | [_, _, _, _], _ => rfl) (fun vs H Q E h => ?_) (fun f cdv A outer s H vs Q E hr h => ?_)
  · obtain ⟨g, d, k, rows, v, p, ps, rfl, _⟩ := h
    rfl
  · obtain ⟨g, d, k, rows, v, p, ps, rfl, hG, ok, hn, hpv, hpos, htb, hps, hpl, q⟩ := h
    have hu := hu_of hr
    have hu65 := hu65_of hr
    obtain ⟨X, Cc⟩ := p
    obtain ⟨t, a, b, rfl, ht, ha, hb⟩ := id hpv
    obtain ⟨dx, ed, lk, hg, _⟩ := id hG
    obtain ⟨st, hs, hsX, hC⟩ := id hpos.ex
    obtain ⟨c0, cr, hc1, hc2, hc3, hc4⟩ := head_comp ok hs hsX
    have hCr : Cc = c0 :: cr := hC.trans hc1
    subst hCr
    have hXl := rise_len hpos.srt hpos.lt
    have hXl2 : X.length ≤ rows.length := hXl
    refine ⟨_, (pss_cons (ps_asg (pv 2) (gtupK K rfl (pgs_cons (pg_name (i := 4) sc_holds.nd rfl (.inl rfl)) (pgs_cons (pg_name (i := 5) sc_holds.nd rfl (.inr rfl)) pgs_nil))))
      (pss_cons (ps_for PassesOwn.never rfl (pitK K (pv 4)) (pg_name (i := 6) sc_holds.nd rfl (.inr rfl)) (pss_cons (ps_set (i := 7) sc_holds.nd rfl (.inl rfl) (pe_callTy (tupK K) (by rfl) T.ztuple (by decide +kernel) (pa_cons (pe_lc (own := [("other", 11)]) rfl sc_holds.nd (pitK K (pv 4)) (blkOk_by (N := ["graph", "k", "position", "known", "searched", "part", "node", "fewer", "wider", "more", "within", "other", "one"]) (sc := defScope (top 21)) (by decide +kernel)) (fun _ _ _ _ _ => (pg_name (i := 11) sc_holds.nd rfl (by first | exact .inl rfl | exact .inr rfl))) (fun _ _ _ _ _ => (pts_one (pt_cmpR op_ne (pv 11) (pv 6) (nomark _)))) (fun _ _ _ _ _ => (pv 11))) pa_nil)))
      (pss_cons (ps_set (i := 8) sc_holds.nd rfl (.inl rfl) (pe_callTy (tupK K) (by rfl) T.ztuple (by decide +kernel) (pa_cons (pe_c c_reached hr (by decide) rfl (pa_cons (pv 0) (pa_cons (pe_ix (ixTK K) (pv 5) pe_int (fun _ _ => rfl)) (pa_cons (pv 7) pa_nil)))) pa_nil)))
      (pss_one (ps_if (pt_cmpR (op_notInD (Nat.lt_of_le_of_lt (Nat.le_refl _) hu65)) (pv 8) (pe_dget2 hu (pv 3) (pv 7) (pe_lst pa_nil) ⟨rfl, rfl, rfl, rfl⟩) (by rfl)) (pss_one (ps_ret pe_bl)) pss_nil)))))
      (pss_cons (ps_if (pt_cmpR op_eq (pe_callB (lenK K) (by rfl) T.zlen PySem.boot_len (pa_cons (pv 4) pa_nil)) (pv 1) (nomark _)) (pss_one (ps_ret pe_bl)) pss_nil)
      (pss_cons (ps_for PassesOwn.never rfl (pi_range1 rfl T.zrange (pa_cons (fldK K (pv 0)) pa_nil)) (pg_name (i := 6) sc_holds.nd rfl (.inr rfl)) (pss_one (ps_if (pt_cmpR (ninK K) (pv 6) (pv 4) (by rfl)) (pss_cons (ps_set (i := 9) sc_holds.nd rfl (.inl rfl) (pe_callTy (tupK K) (by rfl) T.ztuple (by decide +kernel) (pa_cons (pe_callB (srtTK K) (by rfl) T.zsorted (by decide +kernel) (pa_cons (pe_op op_catA (pv 4) (pe_tup (pa_cons (pv 6) pa_nil))) pa_nil)) pa_nil)))
      (pss_cons (ps_setLc (i := 10) (own := [("other", 11)]) rfl sc_holds.nd rfl rfl (sw_true rfl rfl rfl (by decide +kernel)) (pilK K (pe_dget2 hu (pv 3) (pv 9) (pe_lst pa_nil) ⟨rfl, rfl, rfl, rfl⟩)) (blkOk_by (N := ["graph", "k", "position", "known", "searched", "part", "node", "fewer", "wider", "more", "within", "other", "one"]) (sc := defScope (top 21)) (by decide +kernel)) (fun _ _ _ _ _ => (pg_name (i := 11) sc_holds.nd rfl (by first | exact .inl rfl | exact .inr rfl))) (fun _ _ _ _ _ => (pts_one (PW.pt (pw_and (pt_cmpR (inK K) (pe_ix (ixTK K) (pv 11) pe_int (fun _ _ => rfl)) (pv 5) (by rfl)) (pw_and1 (pt_cmpR (ninK K) (pv 6) (pv 11) (by rfl))))))) (fun _ _ _ _ _ => (pv 11)))
      (pss_one (ps_if (pt_not (pt_truth (pe_lc (own := [("other", 11)]) rfl sc_holds.nd (pilK K (pv 10)) (blkOk_by (N := ["graph", "k", "position", "known", "searched", "part", "node", "fewer", "wider", "more", "within", "other", "one"]) (sc := defScope (top 21)) (by decide +kernel)) (fun _ _ _ _ _ => (pg_name (i := 11) sc_holds.nd rfl (by first | exact .inl rfl | exact .inr rfl))) (fun _ _ _ _ _ => (pts_one (pt_val (pe_callB (allK K) (by rfl) T.zall (by decide +kernel) (pa_cons (pe_lc (own := [("one", 12)]) rfl sc_holds.nd (pitK K (pv 11)) (blkOk_by (by rfl)) (fun _ _ _ _ _ => (pg_name (i := 12) sc_holds.nd rfl (by first | exact .inl rfl | exact .inr rfl))) (fun _ _ _ _ _ => pts_nil) (fun _ _ _ _ _ => (pe_cmpR (inK K) (pv 12) (pv 5) (by rfl)))) pa_nil))))) (fun _ _ _ _ _ => (pv 11))) (by intro _; rfl))) (pss_one (ps_ret pe_bl)) pss_nil)))) pss_nil)))
      (pss_one (ps_ret pe_bl)))))), ?_⟩
    refine ⟨_, rfl, t, _, rfl, in3 ht, rfl, _, _, rfl, _, _, rfl, rfl, ?_⟩
    refine ⟨_, rfl, a, rfl, ⟨_, in3 ha⟩, ?_⟩
    refine for_tup (xs := nL X) (fun j σ' H' => ∃ o6 o7 o8 : Option V, σ' = [some (.ref g), some (nI k), some (.ref t), some (.ref d), some (.ref a), some (.ref b), o6, o7, o8, none, none, none, none] ∧ Ex H H' ∧ ∀ v ∈ X.take j, In1 ps X (c0 :: cr) v)
      ⟨none, none, none, rfl, .refl H, fun v h => absurd h (by simp)⟩ (fun j σ' H' _ hP => ?_) (fun j x σ' H' hx hP => ?_) (fun σ' H' hP => ?_)
    · obtain ⟨_, _, _, _, e2, _⟩ := hP
      exact in3 (e2 _ _ ha)
    · obtain ⟨o6, o7, o8, rfl, e1, hdone⟩ := hP
      obtain ⟨y, hy, rfl⟩ := nL_get hx
      have hyX : y ∈ X := List.mem_of_getElem? hy
      have tk : X.take (j + 1) = X.take j ++ [y] := by
        rw [List.take_add_one, hy]
        rfl
      -- fewer
      refine ⟨_, rfl, a, rfl, ⟨_, in3 (e1 _ _ ha)⟩, fun D nD => lc_tmT (R := fun v n => v = nI n) (f := fun u => !decide (u = y)) (g := id) (S := fun _ v n => v = nI n) (fun _ _ _ _ _ h => h) (in3 (e1 _ _ ha)) (nL_paired X) nD (by rw [nL_len]; omega) (fun _ => rfl) (fun x u hx hu' hxu => ?_) fun H2 ys e2 hD2 hys => ?_⟩
      · subst hxu
        refine ⟨fun H3 e3 Q' q' => ?_, fun _ H3 e3 Q' q' => ?_⟩
        · refine ⟨_, rfl, _, rfl, rfl, !decide (u = y), ?_, q' H3 (.refl H3)⟩
          have : decide (nI u = nI y) = decide (u = y) := by
            rw [Bool.eq_iff_iff, decide_eq_true_eq, decide_eq_true_eq]
            exact ⟨fun e => by have := V.int.inj e; omega, fun e => by rw [e]⟩
          rw [this]
        · exact ⟨_, rfl, q' _ H3 (.refl H3) rfl⟩
      · rw [List.map_id] at hys
        have hys' : ys = nL (del y X) := paired_nL hys
        subst hys'
        have e12 := e1.trans e2
        refine ⟨D, _, rfl, .inl ⟨in2 hD2, fun fw nfw => ?_⟩⟩
        have e3 := e12.trans (ex_new (o := .tup (nL (del y X))) nfw)
        have hfw : upd H2 fw (.tup (nL (del y X))) fw = some (.tup (nL (del y X))) := upd_same
        generalize upd H2 fw (.tup (nL (del y X))) = H3 at e3 hfw ⊢
        refine ⟨_, rfl, _, rfl, b, _, _, nI c0, rfl, rfl, in3 (e3 _ _ hb), atI_nat (j := 0) rfl, _, rfl, g, fw, c0, rows, del y X, rfl, hG.ex e3, ok, by omega, hc2, .inr hfw, fun H4 p e4 np hp => ⟨p, _, rfl, .inl ⟨in2 hp, fun wd nwd => ?_⟩⟩⟩
        have e5 := (e3.trans e4).trans (ex_new (o := .tup (nL (comp (gr rows) rows.length (del y X) c0))) nwd)
        have hwd : upd H4 wd (.tup (nL (comp (gr rows) rows.length (del y X) c0))) wd = some (.tup (nL (comp (gr rows) rows.length (del y X) c0))) := upd_same
        have hfw5 := (e4.trans (ex_new (o := .tup (nL (comp (gr rows) rows.length (del y X) c0))) nwd)) _ _ hfw
        generalize upd H4 wd (.tup (nL (comp (gr rows) rows.length (del y X) c0))) = H5 at e5 hwd hfw5 ⊢
        refine ⟨_, rfl, _, rfl, d, rfl, (htb.ex e5).isD, _, rfl, Nat.zero_le _, fun z nz => ?_⟩
        obtain ⟨o, l, hg1, hg2, xs, hl1, hl2⟩ := dget_has (htb.ex e5) hfw5 nz
        refine ⟨o, hg1, ?_⟩
        rw [hg2]
        have e6 := e5.trans (ex_new (o := .lst []) nz)
        refine ⟨encT (comp (gr rows) rows.length (del y X) c0), (at1 (del y X) ps).map encT, dpT ⟨wd, rfl, ex_new nz _ _ hwd⟩, .lst (in2 hl1) (dpLT hl2), shapedT _, shapedLT _, _, rfl, ?_⟩
        rw [any_eqvT]
        have key := in1_iff (v := y) ok hps hpos List.mem_cons_self
        refine ite2 (fun c1 => ?_) (fun c1 => ?_)
        · have c2 : ¬ In1 ps X (c0 :: cr) y := fun z => by
            rw [decide_eq_true (key.mp z)] at c1
            cases c1
          exact q false _ e6 ⟨fun h => (by cases h), fun h => absurd (h.1 y hyX) c2⟩
        · have c2 : In1 ps X (c0 :: cr) y := key.mpr (by simpa using c1)
          refine ⟨_, _, _, rfl, e6, fun v hv => ?_⟩
          rw [tk] at hv
          rcases List.mem_append.mp hv with hv | hv
          · exact hdone v hv
          · rw [List.mem_singleton] at hv
            rw [hv]
            exact c2
    · obtain ⟨o6, o7, o8, rfl, e1, hdone⟩ := hP
      rw [nL_len, List.take_length] at hdone
      refine ⟨_, rfl, a, _, rfl, .inr (in3 (e1 _ _ ha)), _, rfl, rfl, _, rfl, ?_⟩
      refine ite2 (fun c1 => ?_) (fun c1 => ?_)
      · have c2 : X.length = k := by
          have : ((nL X).length : Int) = (k : Int) := V.int.inj (of_decide_eq_true c1)
          rw [nL_len] at this
          omega
        exact q true _ e1 ⟨fun _ => holds_iff.mpr ⟨hdone, .inl c2⟩, fun _ => rfl⟩
      · have c2 : X.length ≠ k := fun z => c1 (decide_eq_true (by rw [nL_len, z]; rfl))
        refine ⟨_, rfl, g, C, dx, _, _, rfl, e1 _ _ hg, T.cl, T.nNodes, flds_nodes _ _ _, _, rfl, by omega, by omega, ?_⟩
        rw [show ((rows.length : Nat) : Int).toNat = rows.length from Int.toNat_natCast _]
        refine for_range (fun i σ' H' => ∃ o6 o7 o8 o9 o10 : Option V, σ' = [some (.ref g), some (nI k), some (.ref t), some (.ref d), some (.ref a), some (.ref b), o6, o7, o8, o9, o10, none, none] ∧ Ex H H' ∧ ∀ v, v < i → v ∉ X → In2 ps X (c0 :: cr) v)
          ⟨o6, o7, o8, none, none, rfl, e1, fun v h => absurd h (Nat.not_lt_zero _)⟩ (fun i σ' H' hi hP => ?_) (fun σ' H' hP => ?_)
        · obtain ⟨o6, o7, o8, o9, o10, rfl, e1, hd2⟩ := hP
          refine ⟨_, rfl, _, rfl, a, _, rfl, .inr (in3 (e1 _ _ ha)), rfl, nL_flat _, _, rfl, ?_⟩
          rw [show (V.int (0 + (i : Int))) = nI i by unfold nI; rw [Int.zero_add], inV_nL]
          refine ite2 (fun c3 => ?_) (fun c3 => ?_)
          · have hiX : i ∉ X := by simpa using c3
            refine ⟨_, rfl, _, rfl, small (by show 1 ≤ 10000000; decide), fun b1 nb1 => ?_⟩
            have e2 := e1.trans (ex_new (o := .tup [nI i]) nb1)
            refine catA_read (e2 _ _ ha) upd_same (by simp) (by rw [nL_len]; show X.length + 1 ≤ _; omega) fun c H2 e23 hc => ?_
            have e3 := e2.trans e23
            have hc' : H2 c = some (.tup (((X ++ [i]).map fun n : Nat => (n : Int)).map V.int)) := by
              rw [hc, ← nL_int, nL_app]
              rfl
            refine ⟨c, _, rfl, in3 hc', fun ms sp hpm hsd nsp => ?_⟩
            have hms : ms.map V.int = nL (ins i X) := sorted_nat hpm hsd
            rw [hms]
            refine ⟨sp, _, rfl, .inl ⟨in2 upd_same, fun mo nmo => ?_⟩⟩
            have e4 := (e3.trans (ex_new nsp)).trans (ex_new (o := .tup (nL (ins i X))) nmo)
            have hmo : upd (upd H2 sp (.lst (nL (ins i X)))) mo (.tup (nL (ins i X))) mo = some (.tup (nL (ins i X))) := upd_same
            generalize upd (upd H2 sp (.lst (nL (ins i X)))) mo (.tup (nL (ins i X))) = H4 at e4 hmo ⊢
            refine ⟨_, rfl, d, rfl, (htb.ex e4).isD, _, rfl, Nat.zero_le _, fun z nz => ?_⟩
            obtain ⟨o, l, hg1, hg2, xs, hl1, hl2⟩ := dget_has (htb.ex e4) hmo nz
            refine ⟨o, hg1, ?_⟩
            rw [hg2]
            have e5 := e4.trans (ex_new (o := .lst []) nz)
            generalize upd H4 z (.lst []) = H5 at e5 hl1 hl2 ⊢
            have hxl : xs.length = (at1 (ins i X) ps).length := Paired.length hl2
            have hal := at1_len (X := ins i X) (ps := ps)
            refine ⟨l, rfl, ⟨_, in2 hl1⟩, fun D nD => lc_tm (S := TupN) (R := TupN H5) (f := fun D => decide (D.headD 0 ∈ c0 :: cr) && !decide (i ∈ D)) (g := id) (fun _ _ _ _ e h => h.tm e) (in2 hl1) hl2 nD (by omega) (fun _ => rfl) (fun x Dd hx hDd hxD => ?_) fun H6 ys e6 hD6 hys => ?_⟩
            · obtain ⟨da, rfl, hda⟩ := hxD
              have hne : Dd ≠ [] := fun z => by
                obtain ⟨u, hu⟩ := (hps _ (mem_at1.mp hDd)).ne ok
                rw [z] at hu
                cases hu
              obtain ⟨d0, dr, rfl⟩ := List.exists_cons_of_ne_nil hne
              refine ⟨fun H7 e7 Q' q' => ?_, fun _ H7 e7 Q' q' => ⟨_, rfl, q' _ H7 (.refl H7) ⟨da, rfl, e7 _ _ hda⟩⟩⟩
              refine ⟨_, rfl, da, _, _, nI d0, rfl, rfl, in3 (e7 _ _ hda), atI_nat (j := 0) rfl, _, rfl, b, _, rfl, .inr (in3 ((e5.trans e7) _ _ hb)), rfl, nL_flat _, _, rfl, ?_⟩
              show (if inV (nI d0) (nL (c0 :: cr)) = true then _ else _)
              rw [inV_nL]
              refine ite2 (fun c4 => ?_) (fun c4 => ?_)
              · refine ⟨_, rfl, _, rfl, da, _, rfl, .inr (in3 (e7 _ _ hda)), rfl, nL_flat _, _, rfl, ?_⟩
                have : (!inV (nI i) (nL (d0 :: dr))) = (decide ((d0 :: dr).headD 0 ∈ c0 :: cr) && !decide (i ∈ d0 :: dr)) := by
                  rw [inV_nL, show (d0 :: dr).headD 0 = d0 from rfl, c4, Bool.true_and]
                have q2 : Q' (decide ((d0 :: dr).headD 0 ∈ c0 :: cr) && !decide (i ∈ d0 :: dr)) H7 := q' H7 (.refl H7)
                rw [← this] at q2
                exact q2
              · have : false = (decide ((d0 :: dr).headD 0 ∈ c0 :: cr) && !decide (i ∈ d0 :: dr)) := by
                  rw [show (d0 :: dr).headD 0 = d0 from rfl, Bool.eq_false_iff.mpr c4]
                  rfl
                have q2 : Q' (decide ((d0 :: dr).headD 0 ∈ c0 :: cr) && !decide (i ∈ d0 :: dr)) H7 := q' H7 (.refl H7)
                rw [← this] at q2
                exact q2
            · rw [List.map_id] at hys
              have e56 := e5.trans e6
              have hyl : ys.length = ((at1 (ins i X) ps).filter fun D => decide (D.headD 0 ∈ c0 :: cr) && !decide (i ∈ D)).length := Paired.length hys
              have hyl2 := List.length_filter_le (fun D : List Nat => decide (D.headD 0 ∈ c0 :: cr) && !decide (i ∈ D)) (at1 (ins i X) ps)
              refine ⟨_, rfl, D, rfl, ⟨_, in2 hD6⟩, fun D2 nD2 => lc_tm (S := TupN) (R := TupN H6) (f := fun D => D.all fun u => decide (u ∈ c0 :: cr)) (g := id) (fun _ _ _ _ e h => h.tm e) (in2 hD6) hys nD2 (by omega) (fun _ => rfl) (fun x Dd hx hDd hxD => ?_) fun H8 zs e8 hD8 hzs => ?_⟩
              · obtain ⟨da, rfl, hda⟩ := hxD
                refine ⟨fun H7 e7 Q' q' => ?_, fun _ H7 e7 Q' q' => ⟨_, rfl, q' _ H7 (.refl H7) ⟨da, rfl, e7 _ _ hda⟩⟩⟩
                have hDn : Dd.length ≤ rows.length := by
                  have h9 := hps _ (mem_at1.mp (List.mem_filter.mp hDd).1)
                  obtain ⟨s9, _, _, h10⟩ := h9.ex
                  have h11 : Dd = comp (gr rows) rows.length (ins i X) s9 := h10
                  rw [h11]
                  exact K67M.comp_len
                refine ⟨_, rfl, da, rfl, ⟨_, in3 (e7 _ _ hda)⟩, fun D3 nD3 => lc_tmT (R := fun v n => v = nI n) (f := fun _ => true) (g := fun u => decide (u ∈ c0 :: cr)) (S := fun _ v b => v = V.bl b) (fun _ _ _ _ _ h => h) (in3 (e7 _ _ hda)) (nL_paired Dd) nD3 (by rw [nL_len]; omega) (fun _ => rfl) (fun x u hx hu' hxu => lc_all fun H9 e9 Q9 q9 => ?_) fun H9 ws e9 hD9 hws => ?_⟩
                · subst hxu
                  refine ⟨_, rfl, _, rfl, b, _, rfl, .inr (in3 ((e56.trans (e7.trans e9)) _ _ hb)), rfl, nL_flat _, q9 _ H9 (.refl H9) ?_⟩
                  exact congrArg V.bl (inV_nL _ _)
                · rw [filter_true] at hws
                  have hws' := paired_bl hws
                  refine ⟨D3, Dd.map fun u => decide (u ∈ c0 :: cr), rfl, in2 (hws' ▸ hD9), _, rfl, ?_⟩
                  rw [List.all_map]
                  exact q' H9 e9
              · rw [List.map_id] at hzs
                have e68 := e56.trans e8
                have hzl : zs.length = _ := Paired.length hzs
                have key := in2_iff (X := X) (Cc := c0 :: cr) (v := i) ok hps
                have mem_f : ∀ Dd, (Dd ∈ ((at1 (ins i X) ps).filter fun D => decide (D.headD 0 ∈ c0 :: cr) && !decide (i ∈ D)).filter fun D => D.all fun u => decide (u ∈ c0 :: cr)) ↔ Dd ∈ at1 (ins i X) ps ∧ (Dd.headD 0 ∈ c0 :: cr ∧ i ∉ Dd) ∧ ∀ u ∈ Dd, u ∈ c0 :: cr := fun Dd => by
                  rw [List.mem_filter, List.mem_filter, List.all_eq_true]
                  simp only [Bool.and_eq_true, Bool.not_eq_true', decide_eq_true_eq, decide_eq_false_iff_not, and_assoc]
                refine ⟨_, .inl ⟨_, in2 hD8, rfl⟩, ?_⟩
                refine ite2 (fun c4 => ?_) (fun c4 => ?_)
                · have hz0 : zs = [] := by simpa using c4
                  refine q false _ e68 ⟨fun h => (by cases h), fun h => ?_⟩
                  rcases h.2 with h2 | h2
                  · exact absurd h2 c2
                  · obtain ⟨Dd, m1, ⟨d0, dr, m2, m3⟩, m4, m5⟩ := key.mp (h2 i hi hiX)
                    have : Dd ∈ _ := (mem_f Dd).mpr ⟨m1, ⟨by rw [m2]; exact m3, m4⟩, m5⟩
                    rw [hz0] at hzl
                    rw [List.eq_nil_of_length_eq_zero hzl.symm] at this
                    cases this
                · have hz0 : zs ≠ [] := fun z => c4 (by rw [z]; rfl)
                  refine ⟨_, _, _, _, _, rfl, e68, fun v hv hvX => ?_⟩
                  by_cases ev : v < i
                  · exact hd2 v ev hvX
                  · have ev : v = i := by omega
                    subst ev
                    refine key.mpr ?_
                    have hlen : (((at1 (ins v X) ps).filter fun D => decide (D.headD 0 ∈ c0 :: cr) && !decide (v ∈ D)).filter fun D => D.all fun u => decide (u ∈ c0 :: cr)) ≠ [] := fun z => hz0 (List.eq_nil_of_length_eq_zero (by rw [hzl, z]; rfl))
                    obtain ⟨Dd, tl, e⟩ := List.exists_cons_of_ne_nil hlen
                    have m := (mem_f Dd).mp (by rw [e]; exact List.mem_cons_self)
                    have hne : Dd ≠ [] := fun z => by
                      obtain ⟨u, hu⟩ := (hps _ (mem_at1.mp m.1)).ne ok
                      rw [z] at hu
                      cases hu
                    obtain ⟨d0, dr, rfl⟩ := List.exists_cons_of_ne_nil hne
                    exact ⟨_, m.1, ⟨d0, dr, rfl, m.2.1.1⟩, m.2.1.2, m.2.2⟩
          · have hiX : i ∈ X := by simpa using c3
            refine ⟨_, _, _, _, _, rfl, e1, fun v hv hvX => ?_⟩
            by_cases ev : v < i
            · exact hd2 v ev hvX
            · have ev : v = i := by omega
              rw [ev] at hvX
              exact absurd hiX hvX
        · obtain ⟨o6, o7, o8, o9, o10, rfl, e1, hd2⟩ := hP
          exact q true _ e1 ⟨fun _ => holds_iff.mpr ⟨hdone, .inr hd2⟩, fun _ => rfl⟩
end
end K67
set_option Elab.async false
set_option linter.all false
set_option maxRecDepth 100000
set_option maxHeartbeats 2000000
namespace K67
open PySem PySem.Spec PyProof.Rows L2
open K67M (Gr comp IsPos Holds Gf Ok Reach srt ins del)
/-- in ascending order, each once -/
def Sor (ps : List K67M.Pos) : Prop := ps.Nodup ∧ ps.Pairwise fun p q => posLe p q = true
theorem Sor.filter {ps : List K67M.Pos} (h : Sor ps) (f : K67M.Pos → Bool) : Sor (ps.filter f) := ⟨h.1.filter f, h.2.filter f⟩
theorem Sor.eq {ps qs : List K67M.Pos} (h : Sor ps) (g : Sor qs) (e : ∀ p, p ∈ ps ↔ p ∈ qs) : ps = qs :=
  K67M.perm_sorted (fun _ _ a b => posLe_anti a b) (perm_of_mem h.1 g.1 e) h.2 g.2
theorem Sor.psort {ps : List K67M.Pos} (h : ps.Nodup) : Sor (psort ps) := ⟨(psort_perm ps).nodup_iff.mpr h, psort_le ps⟩
def lastV (xs : List V) (j : Nat) : V := match j with
  | 0 => .non
  | i + 1 => (xs[i]?).getD .non
section
variable {P : Program} {w : World} {K : PySem.W.Frag} {mg : Str → Option Value} {base : Heap} {C CT CB : Addr}
def spCheck (C : Addr) : Sp := fun vs H Q _ => ∃ (g a : Addr) (k : Nat) (rows : List (List Nat)) (ps : List K67M.Pos), vs = [.ref g, nI k, .ref a] ∧ GraphAt C H g rows ∧ Ok rows.length (gr rows) ∧ rows.length ≤ 8 ∧ LOf PosV H a ps ∧ ps ≠ [] ∧ Sor ps ∧
  (∀ q ∈ ps, IsPos (gr rows) rows.length k q ∧ Holds rows.length k (fun q => q ∈ ps) q) ∧ ps.length ≤ 1000000 ∧ ∀ H', Ex H H' → Q (.bl true) H'
theorem sc_check_refuge : FnScope ["graph", "k", "positions", "last", "position", "known"] ["graph", "k", "positions"] (defScope (top 23)) := ⟨rfl, rfl, rfl, by decide +kernel, rfl, by decide +kernel, by decide +kernel⟩
theorem cal_check_refuge (T : Txt K mg C CT CB) (D : Df K mg "check_refuge" 23) (c_is_position : Cal P w K mg base 3 "is_position" (spIsPos C)) (c_holds : Cal P w K mg base 2 "holds" (spHolds C)) (c_table_of : Cal P w K mg base 1 "table_of" spTable) : Cal P w K mg base 4 "check_refuge" (spCheck C) := by
  refine cal_mk D sc_check_refuge (fun _ _ _ _ _ _ us hl => match us, hl with | [_, _, _], _ => rfl) (fun vs H Q E h => ?_) (fun f cdv A outer s H vs Q E hr h => ?_)
  · obtain ⟨g, a, k, rows, ps, rfl, _⟩ := h
    rfl
  · obtain ⟨g, a, k, rows, ps, rfl, hG, ok, hn, ⟨xs, ha, hxs⟩, hne, hso, hall, hl, q⟩ := h
    have hu := hu_of hr
    refine ⟨_, (pss_cons (ps_if (PW.pt (pw_or (pt_not (pt_val (pe_callB (isiK K) (by rfl) T.zisinstance (by decide +kernel) (pa_cons (pv 2) (pa_cons (pe_bltn (v := .ty "list") (by rfl) T.zlist (by decide +kernel) rfl) pa_nil))))) (pw_or1 (pt_not (pt_truth (pv 2) (by intro _; rfl)))))) (pss_one (ps_ret pe_bl)) pss_nil)
      (pss_cons (ps_set (i := 3) sc_check_refuge.nd rfl (.inl rfl) pe_non)
      (pss_cons (ps_for PassesOwn.never rfl (pilK K (pv 2)) (pg_name (i := 4) sc_check_refuge.nd rfl (.inl rfl)) (pss_cons (ps_if (PW.pt (pw_or (pt_not (pt_val (pe_c c_is_position hr (by decide) rfl (pa_cons (pv 0) (pa_cons (pv 1) (pa_cons (pv 4) pa_nil)))))) (pw_or1 (PW.pt (pw_and (pt_cmpR op_notN (pv 3) pe_non (nomark _)) (pw_and1 (pt_cmpR (op_leD hr.units) (pv 4) (pv 3) (nomark _)))))))) (pss_one (ps_ret pe_bl)) pss_nil)
      (pss_one (ps_set (i := 3) sc_check_refuge.nd rfl (.inl rfl) (pv 4)))))
      (pss_cons (ps_set (i := 5) sc_check_refuge.nd rfl (.inl rfl) (pe_c c_table_of hr (by decide) rfl (pa_cons (pv 2) pa_nil)))
      (pss_cons (ps_for PassesOwn.never rfl (pilK K (pv 2)) (pg_name (i := 4) sc_check_refuge.nd rfl (.inl rfl)) (pss_one (ps_if (pt_not (pt_val (pe_c c_holds hr (by decide) rfl (pa_cons (pv 0) (pa_cons (pv 1) (pa_cons (pv 4) (pa_cons (pv 5) pa_nil))))))) (pss_one (ps_ret pe_bl)) pss_nil)))
      (pss_one (ps_ret pe_bl))))))), ?_⟩
    refine ⟨_, rfl, _, _, _, _, true, rfl, .ty _, ty_lst ha, kit_ty kb_list_list, true, rfl, iteF ⟨_, rfl, _, .inl ⟨_, in2 ha, rfl⟩, ?_⟩⟩
    have hxl : xs.length = ps.length := Paired.length hxs
    have hxe : (!xs.isEmpty) = true := by
      cases xs with
      | nil => exact absurd (List.eq_nil_of_length_eq_zero hxl.symm) hne
      | cons _ _ => rfl
    rw [hxe]
    refine iteF ⟨_, rfl, a, rfl, ⟨_, in2 ha⟩, ?_⟩
    refine for_list (xs := xs) (fun j σ' H' => ∃ o4 : Option V, σ' = [some (.ref g), some (nI k), some (.ref a), some (lastV xs j), o4, none] ∧ Ex H H') ⟨none, rfl, .refl H⟩ (fun j σ' H' _ hP => ?_) (fun j x σ' H' hx hP => ?_) (fun σ' H' hP => ?_)
    · obtain ⟨_, _, e2⟩ := hP
      exact in2 (e2 _ _ ha)
    · obtain ⟨o4, rfl, e1⟩ := hP
      obtain ⟨p, hp, hpv⟩ := paired_get hxs hx
      have hpm : p ∈ ps := List.mem_of_getElem? hp
      refine ⟨_, rfl, _, rfl, _, rfl, g, k, rows, x, p, rfl, hG.ex e1, ok, hn, hpv.tm (Tm.of e1), (hall p hpm).1, fun H2 e2 => ⟨true, rfl, iteF ?_⟩⟩
      have e12 := e1.trans e2
      have fin : ∃ o4 : Option V, [some (V.ref g), some (nI k), some (.ref a), some x, some x, none] = [some (.ref g), some (nI k), some (.ref a), some (lastV xs (j + 1)), o4, none] ∧ Ex H H2 := by
        refine ⟨some x, ?_, e12⟩
        show _ = [some (V.ref g), some (nI k), some (.ref a), some ((xs[j]?).getD .non), some x, none]
        rw [hx]
        rfl
      cases j with
      | zero =>
        refine ⟨_, rfl, rfl, false, rfl, iteF (iteF ⟨_, rfl, fin⟩)⟩
      | succ i =>
        have hi : i < xs.length := by
          have := (List.getElem?_eq_some_iff.mp hx).1
          omega
        have hxi : xs[i]? = some xs[i] := List.getElem?_eq_getElem hi
        obtain ⟨p', hp', hpv'⟩ := paired_get hxs hxi
        have el : lastV xs (i + 1) = xs[i] := by
          show (xs[i]?).getD .non = _
          rw [hxi]
          rfl
        rw [el]
        have hnn : decide (xs[i] = V.non) = false := by
          obtain ⟨_, _, _, e, _⟩ := hpv'
          rw [e]
          rfl
        refine ⟨_, rfl, rfl, true, by rw [hnn]; rfl, iteT ?_⟩
        refine ⟨_, rfl, _, rfl, encP p, encP p', dpP (hpv.tm (Tm.of e12)), dpP (hpv'.tm (Tm.of e12)), alikeP _ _, (by intro z; cases z), depthP _, false, ?_, iteF ⟨_, rfl, fin⟩⟩
        have hlt : posLe p' p = true := by
          obtain ⟨h1, h1'⟩ := List.getElem?_eq_some_iff.mp hp'
          obtain ⟨h2, h2'⟩ := List.getElem?_eq_some_iff.mp hp
          have := List.pairwise_iff_getElem.mp hso.2 i (i + 1) h1 h2 (Nat.lt_succ_self _)
          rw [h1', h2'] at this
          exact this
        have hne' : p' ≠ p := fun z => by
          obtain ⟨h1, h1'⟩ := List.getElem?_eq_some_iff.mp hp'
          obtain ⟨h2, h2'⟩ := List.getElem?_eq_some_iff.mp hp
          have := List.pairwise_iff_getElem.mp (List.nodup_iff_pairwise_ne.mp hso.1) i (i + 1) h1 h2 (Nat.lt_succ_self _)
          rw [h1', h2'] at this
          exact this z
        have : posLe p p' = false := by
          cases e : posLe p p' with
          | false => rfl
          | true => exact absurd (posLe_anti hlt e) hne'
        rw [posLe_def] at this
        exact congrArg V.bl this
    · obtain ⟨o4, rfl, e1⟩ := hP
      refine ⟨_, rfl, a, ps, rfl, ⟨xs, e1 _ _ ha, L2.Paired.mapP hxs fun _ _ z => z.tm (Tm.of e1)⟩, hl, fun H2 d e2 tb => ?_⟩
      have e12 := e1.trans e2
      refine ⟨_, rfl, a, rfl, ⟨_, in2 (e12 _ _ ha)⟩, ?_⟩
      refine for_list (xs := xs) (fun j σ' H' => ∃ o3 o4 : Option V, σ' = [some (.ref g), some (nI k), some (.ref a), o3, o4, some (.ref d)] ∧ Ex H2 H') ⟨_, _, rfl, .refl H2⟩ (fun j σ' H' _ hP => ?_) (fun j x σ' H' hx hP => ?_) (fun σ' H' hP => ?_)
      · obtain ⟨_, _, _, e3⟩ := hP
        exact in2 ((e12.trans e3) _ _ ha)
      · obtain ⟨o3, o4, rfl, e3⟩ := hP
        obtain ⟨p, hp, hpv⟩ := paired_get hxs hx
        have hpm : p ∈ ps := List.mem_of_getElem? hp
        refine ⟨_, rfl, _, rfl, _, rfl, _, rfl, g, d, k, rows, x, p, ps, rfl, hG.ex (e12.trans e3), ok, hn, hpv.tm (Tm.of (e12.trans e3)), (hall p hpm).1, tb.ex e3, fun q hq => (hall q hq).1, hl, fun b H4 e4 hb => ?_⟩
        have hbt : b = true := hb.mpr (hall p hpm).2
        subst hbt
        exact ⟨true, rfl, iteF ⟨_, _, rfl, e3.trans e4⟩⟩
      · obtain ⟨o3, o4, rfl, e3⟩ := hP
        exact q _ (e12.trans e3)
/-! ### largest_refuge -/
/-- what is told: the greatest refuge, anew, or None -/
def Told (C : Addr) (rows : List (List Nat)) (k : Nat) (H : Hp) (Q : VK) : Prop := ∀ (qs : List K67M.Pos) (H' : Hp), Ex H H' → Sor qs → (∀ p, p ∈ qs ↔ Gf (gr rows) rows.length k p) → qs.length ≤ 1000000 →
  (qs = [] → Q .non H') ∧ (qs ≠ [] → ∀ c, H c = none → LOf PosV H' c qs → Q (.ref c) H')
def spLargest (C : Addr) : Sp := fun vs H Q _ => ∃ (g a : Addr) (k : Nat) (rows : List (List Nat)) (ps : List K67M.Pos), vs = [.ref g, nI k, .ref a] ∧ GraphAt C H g rows ∧ Ok rows.length (gr rows) ∧ rows.length ≤ 8 ∧ LOf PosV H a ps ∧ Sor ps ∧
  (∀ q, q ∈ ps ↔ IsPos (gr rows) rows.length k q) ∧ ps.length ≤ 1000000 ∧ Told C rows k H Q
theorem gf_pos {G : Gr} {n k : Nat} {p : K67M.Pos} (h : Gf G n k p) : IsPos G n k p ∧ Holds n k (Gf G n k) p := K67M.gf_refuge p h
theorem sc_largest_refuge : FnScope ["graph", "k", "positions", "again", "known", "kept", "position"] ["graph", "k", "positions"] (defScope (top 24)) := ⟨rfl, rfl, rfl, by decide +kernel, rfl, by decide +kernel, by decide +kernel⟩
theorem cal_largest_refuge (T : Txt K mg C CT CB) (D : Df K mg "largest_refuge" 24) (c_holds : Cal P w K mg base 2 "holds" (spHolds C)) (c_table_of : Cal P w K mg base 1 "table_of" spTable) : Cal P w K mg base 3 "largest_refuge" (spLargest C) := by
  refine cal_mk D sc_largest_refuge (fun _ _ _ _ _ _ us hl => match us, hl with | [_, _, _], _ => rfl) (fun vs H Q E h => ?_) (fun f cdv A outer s H vs Q E hr h => ?_)
  · obtain ⟨g, a, k, rows, ps, rfl, _⟩ := h
    rfl
  · obtain ⟨g, a, k, rows, ps, rfl, hG, ok, hn, hLa, hso, hmem, hl, q⟩ := h
    have hu := hu_of hr
    refine ⟨_, (pss_cons (ps_set (i := 3) sc_largest_refuge.nd rfl (.inl rfl) pe_bl)
      (pss_cons (ps_while PassesOwn.never (pt_val (pv 3)) (pss_cons (ps_set (i := 4) sc_largest_refuge.nd rfl (.inr rfl) (pe_c c_table_of hr (by decide) rfl (pa_cons (pv 2) pa_nil)))
      (pss_cons (ps_setLc (i := 5) (own := [("position", 6)]) rfl sc_largest_refuge.nd rfl rfl (sw_true rfl rfl rfl (by decide +kernel)) (pilK K (pv 2)) (blkOk_by (N := ["graph", "k", "positions", "again", "known", "kept", "position"]) (sc := defScope (top 24)) (by decide +kernel)) (fun _ _ _ _ _ => (pg_name (i := 6) sc_largest_refuge.nd rfl (by first | exact .inl rfl | exact .inr rfl))) (fun _ _ _ _ _ => (pts_one (pt_val (pe_c c_holds hr (by decide) rfl (pa_cons (pv 0) (pa_cons (pv 1) (pa_cons (pv 6) (pa_cons (pv 4) pa_nil)))))))) (fun _ _ _ _ _ => (pv 6)))
      (pss_cons (ps_set (i := 3) sc_largest_refuge.nd rfl (.inl rfl) (pe_cmpR op_lt (pe_callB (lenK K) (by rfl) T.zlen PySem.boot_len (pa_cons (pv 5) pa_nil)) (pe_callB (lenK K) (by rfl) T.zlen PySem.boot_len (pa_cons (pv 2) pa_nil)) (nomark _)))
      (pss_one (ps_set (i := 2) sc_largest_refuge.nd rfl (.inl rfl) (pv 5)))))))
      (pss_cons (ps_if (pt_not (pt_truth (pv 2) (by intro _; rfl))) (pss_one (ps_ret pe_non)) pss_nil)
      (pss_one (ps_ret (pv 2)))))), ?_⟩
    refine ⟨fun m σ H' => ∃ (pa : Addr) (b : Bool) (ps : List K67M.Pos) (o4 o5 : Option V), σ = [some (.ref g), some (nI k), some (.ref pa), some (.bl b), o4, o5, none] ∧ Ex H H' ∧ LOf PosV H' pa ps ∧ Sor ps ∧ (∀ p ∈ ps, IsPos (gr rows) rows.length k p) ∧ (∀ p, Gf (gr rows) rows.length k p → p ∈ ps) ∧
        ps.length ≤ 1000000 ∧ (b = false → H pa = none ∧ ∀ p ∈ ps, Holds rows.length k (fun q => q ∈ ps) p) ∧ m = 2 * ps.length + (if b = true then 1 else 0),
      ⟨_, a, true, ps, none, none, rfl, .refl H, hLa, hso, fun p hp => (hmem p).mp hp, fun p hp => (hmem p).mpr (gf_pos hp).1, hl, (fun h => by cases h), rfl⟩, fun m σ H1 hW => ?_⟩
    obtain ⟨pa, b, ps, o4, o5, rfl, e1, ⟨xs, hpa, hxs⟩, hso, hmem, hgf, hl, hfin, rfl⟩ := hW
    have hxl : xs.length = ps.length := Paired.length hxs
    refine ⟨_, rfl, b, rfl, ?_⟩
    cases b with
    | true =>
      refine iteT ⟨fun σ' H' => ∃ (pa : Addr) (b : Bool) (qs : List K67M.Pos) (o4 o5 : Option V), σ' = [some (.ref g), some (nI k), some (.ref pa), some (.bl b), o4, o5, none] ∧ Ex H H' ∧ LOf PosV H' pa qs ∧ Sor qs ∧ (∀ p ∈ qs, IsPos (gr rows) rows.length k p) ∧ (∀ p, Gf (gr rows) rows.length k p → p ∈ qs) ∧
        qs.length ≤ 1000000 ∧ H pa = none ∧ (b = false → ∀ p ∈ qs, Holds rows.length k (fun q => q ∈ qs) p) ∧ qs.length ≤ ps.length ∧ b = decide (qs.length < ps.length), fun σ' H' hN => ?_, ?_⟩
      · obtain ⟨pa', b', qs, o4', o5', rfl, e2, hL2, hso2, hmem2, hgf2, hl2, hf2, hh2, hle, hb⟩ := hN
        refine ⟨_, ?_, pa', b', qs, o4', o5', rfl, e2, hL2, hso2, hmem2, hgf2, hl2, fun z => ⟨hf2, hh2 z⟩, rfl⟩
        rw [if_pos rfl]
        cases b' with
        | true =>
          have : qs.length < ps.length := of_decide_eq_true hb.symm
          rw [if_pos rfl]
          omega
        | false =>
          rw [if_neg (by decide)]
          omega
      · refine ⟨_, rfl, pa, ps, rfl, ⟨xs, hpa, hxs⟩, hl, fun H2 d e2 tb => ?_⟩
        have e12 := e1.trans e2
        refine ⟨_, rfl, pa, rfl, ⟨_, in2 (e2 _ _ hpa)⟩, fun D nD => lc_tm (S := PosV) (R := PosV H2) (f := fun p => @decide (Holds rows.length k (fun q => q ∈ ps) p) (Classical.propDecidable _)) (g := id) (fun _ _ _ _ e h => h.tm e) (in2 (e2 _ _ hpa)) (L2.Paired.mapP hxs fun _ _ z => z.tm (Tm.of e2)) nD (by omega) (fun _ => rfl) (fun x p hx hp hxp => ?_) fun H3 ys e3 hD hys => ?_⟩
        · refine ⟨fun H4 e4 Q' q' => ?_, fun _ H4 e4 Q' q' => ⟨_, rfl, q' _ H4 (.refl H4) (hxp.tm (Tm.of e4))⟩⟩
          refine ⟨_, rfl, _, rfl, _, rfl, _, rfl, g, d, k, rows, x, p, ps, rfl, hG.ex (e12.trans e4), ok, hn, hxp.tm (Tm.of e4), hmem p hp, tb.ex e4, hmem, hl, fun b H5 e5 hb => ⟨b, rfl, ?_⟩⟩
          have : b = @decide (Holds rows.length k (fun q => q ∈ ps) p) (Classical.propDecidable _) := by
            rw [Bool.eq_iff_iff, hb]
            exact ⟨fun z => @decide_eq_true _ (Classical.propDecidable _) z, fun z => @of_decide_eq_true _ (Classical.propDecidable _) z⟩
          rw [this]
          exact q' H5 e5
        · rw [List.map_id] at hys
          have hyl : ys.length = _ := Paired.length hys
          have e13 := e12.trans e3
          refine ⟨_, rfl, D, _, rfl, .inl (in2 hD), _, rfl, pa, _, rfl, .inl (in2 ((e2.trans e3) _ _ hpa)), _, _, rfl, rfl, _, rfl, D, _, ps.filter fun p => @decide (Holds rows.length k (fun q => q ∈ ps) p) (Classical.propDecidable _), _, _, rfl, e13, ⟨ys, hD, hys⟩, hso.filter _, fun p hp => hmem p (List.mem_filter.mp hp).1, fun p hp => ?_, Nat.le_trans (List.length_filter_le _ _) hl, ex_none e12 nD, fun hb p hp => ?_, List.length_filter_le _ _, ?_⟩
          · rw [List.mem_filter]
            refine ⟨hgf p hp, ?_⟩
            exact @decide_eq_true _ (Classical.propDecidable _) ((gf_pos hp).2.mono hgf)
          · have hlen : ¬ ((ys.length : Int) < (xs.length : Int)) := of_decide_eq_false hb
            have heq : (ps.filter fun p => @decide (Holds rows.length k (fun q => q ∈ ps) p) (Classical.propDecidable _)) = ps := by
              refine List.filter_sublist.eq_of_length ?_
              have := List.length_filter_le (fun p => @decide (Holds rows.length k (fun q => q ∈ ps) p) (Classical.propDecidable _)) ps
              omega
            have h2 := (List.mem_filter.mp hp).2
            rw [heq]
            exact @of_decide_eq_true _ (Classical.propDecidable _) h2
          · rw [← hyl, ← hxl, Bool.eq_iff_iff, decide_eq_true_eq, decide_eq_true_eq]
            omega
    | false =>
      refine iteF ⟨_, rfl, _, .inl ⟨_, in2 hpa, rfl⟩, ?_⟩
      obtain ⟨hf, hh⟩ := hfin rfl
      have Q2 := q ps H1 e1 hso (fun p => ⟨fun hp => ⟨fun q => q ∈ ps, fun p hp => ⟨hmem p hp, hh p hp⟩, hp⟩, hgf p⟩) hl
      refine ite2 (fun c1 => ?_) (fun c1 => ?_)
      · have hx0 : xs = [] := by simpa using c1
        rw [hx0] at hxl
        exact Q2.1 (List.eq_nil_of_length_eq_zero hxl.symm)
      · refine ⟨_, rfl, Q2.2 (fun z => ?_) pa hf ⟨xs, hpa, hxs⟩⟩
        rw [z] at hxl
        rw [List.eq_nil_of_length_eq_zero hxl] at c1
        exact c1 rfl
/-! ### is_refuge, greatest_refuge -/
theorem sc_is_refuge : FnScope ["graph", "k", "positions"] ["graph", "k", "positions"] (defScope (top 28)) := ⟨rfl, rfl, rfl, by decide +kernel, rfl, by decide +kernel, by decide +kernel⟩
def spIsRef (C : Addr) : Sp := fun vs H Q E => spCheck C vs H Q E ∧ ∃ (k : Nat) (x y : V), vs = [x, nI k, y] ∧ k ≤ 9
theorem cal_is_refuge (T : Txt K mg C CT CB) (D : Df K mg "is_refuge" 28) (c_check_number : Cal P w K mg base 2 "check_number" spNum) (c_check_refuge : Cal P w K mg base 4 "check_refuge" (spCheck C)) : Cal P w K mg base 5 "is_refuge" (spIsRef C) := by
  refine cal_mk D sc_is_refuge (fun _ _ _ _ _ _ us hl => match us, hl with | [_, _, _], _ => rfl) (fun vs H Q E h => ?_) (fun f cdv A outer s H vs Q E hr h => ?_)
  · obtain ⟨_, k, x, y, rfl, _⟩ := h
    rfl
  · obtain ⟨h, k, x, y, rfl, hk⟩ := h
    refine ⟨_, (pss_cons (ps_expr (pe_c c_check_number hr (by decide) rfl (pa_cons (pv 1) (pa_cons pe_int (pa_cons (pe_gi T.iSEARCHERS) pa_nil)))))
      (pss_one (ps_ret (pe_c c_check_refuge hr (by decide) rfl (pa_cons (pv 0) (pa_cons (pv 1) (pa_cons (pv 2) pa_nil))))))), ?_⟩
    refine ⟨_, rfl, (k : Int), 0, 9, rfl, ⟨by omega, by omega⟩, ?_⟩
    refine ⟨_, rfl, _, rfl, _, rfl, ?_⟩
    obtain ⟨g, a, k', rows, ps, e, r⟩ := h
    exact ⟨g, a, k', rows, ps, e, r⟩
theorem sc_greatest_refuge : FnScope ["graph", "k"] ["graph", "k"] (defScope (top 29)) := ⟨rfl, rfl, rfl, by decide +kernel, rfl, by decide +kernel, by decide +kernel⟩
def spGreat (C : Addr) : Sp := fun vs H Q _ => ∃ (g : Addr) (k : Nat) (rows : List (List Nat)), vs = [.ref g, nI k] ∧ GraphAt C H g rows ∧ Ok rows.length (gr rows) ∧ rows.length ≤ 8 ∧ k ≤ 9 ∧ Told C rows k H Q
theorem cal_greatest_refuge (T : Txt K mg C CT CB) (D : Df K mg "greatest_refuge" 29) (c_check_number : Cal P w K mg base 2 "check_number" spNum) (c_largest_refuge : Cal P w K mg base 3 "largest_refuge" (spLargest C)) (c_positions_of : Cal P w K mg base 3 "positions_of" (spPositions C)) : Cal P w K mg base 4 "greatest_refuge" (spGreat C) := by
  refine cal_mk D sc_greatest_refuge (fun _ _ _ _ _ _ us hl => match us, hl with | [_, _], _ => rfl) (fun vs H Q E h => ?_) (fun f cdv A outer s H vs Q E hr h => ?_)
  · obtain ⟨g, k, rows, rfl, _⟩ := h
    rfl
  · obtain ⟨g, k, rows, rfl, hG, ok, hn, hk, q⟩ := h
    obtain ⟨dx, ed, lk, hg, _⟩ := id hG
    refine ⟨_, (pss_cons (ps_expr (pe_c c_check_number hr (by decide) rfl (pa_cons (pv 1) (pa_cons pe_int (pa_cons (pe_gi T.iSEARCHERS) pa_nil)))))
      (pss_cons (ps_if (pt_cmpR op_gt (fldK K (pv 0)) (pe_gi T.iSMALL) (nomark _)) (pss_one ps_never) pss_nil)
      (pss_one (ps_ret (pe_c c_largest_refuge hr (by decide) rfl (pa_cons (pv 0) (pa_cons (pv 1) (pa_cons (pe_c c_positions_of hr (by decide) rfl (pa_cons (pv 0) (pa_cons (pv 1) pa_nil))) pa_nil)))))))), ?_⟩
    refine ⟨_, rfl, (k : Int), 0, 9, rfl, ⟨by omega, by omega⟩, ?_⟩
    refine ⟨_, rfl, g, C, dx, _, _, rfl, hg, T.cl, T.nNodes, flds_nodes _ _ _, _, _, rfl, rfl, false, congrArg V.bl (decide_eq_false (by omega)), iteF ?_⟩
    refine ⟨_, rfl, _, rfl, _, rfl, _, rfl, g, k, rows, rfl, hG, ok, hn, fun H2 p ps e2 hps hpl np hp => ?_⟩
    refine ⟨g, p, k, rows, psort ps, rfl, hG.ex e2, ok, hn, hp, Sor.psort hps.1, fun q => (psort_perm ps).mem_iff.trans (hps.2 q), ?_, fun qs H' e hs hm hq => ?_⟩
    · rw [(psort_perm ps).length_eq]
      exact hpl
    · obtain ⟨h1, h2⟩ := q qs H' (e2.trans e) hs hm hq
      exact ⟨h1, fun z c nc hc => h2 z c (ex_none e2 nc) hc⟩
end
end K67
set_option Elab.async false
set_option linter.all false
set_option maxRecDepth 100000
set_option maxHeartbeats 2000000
namespace K67
open PySem PySem.Spec PyProof.Rows L2
open K67M (Gr comp IsPos Holds Gf Ok Reach srt ins del)
/-! ### edges -/
def eLt (e f : Nat × Nat) : Prop := e.1 < f.1 ∨ (e.1 = f.1 ∧ e.2 < f.2)
def EdgesOk (n : Nat) (es : List (Nat × Nat)) : Prop := es.Pairwise eLt ∧ ∀ e ∈ es, e.1 < e.2 ∧ e.2 < n
def nbr (es : List (Nat × Nat)) (v : Nat) : List Nat := es.flatMap fun e => (if v = e.1 then [e.2] else []) ++ (if v = e.2 then [e.1] else [])
def rowsOf (n : Nat) (es : List (Nat × Nat)) : List (List Nat) := (List.range n).map fun v => srt (nbr es v)
section
variable {n u v : Nat} {es : List (Nat × Nat)}
theorem rows_len : (rowsOf n es).length = n := by
  unfold rowsOf
  rw [List.length_map, List.length_range]
theorem mem_nbr : u ∈ nbr es v ↔ (v, u) ∈ es ∨ (u, v) ∈ es := by
  unfold nbr
  rw [List.mem_flatMap]
  constructor
  · rintro ⟨e, he, h⟩
    rcases List.mem_append.mp h with h | h
    · by_cases z : v = e.1
      · rw [if_pos z, List.mem_singleton] at h
        rw [z, h]
        exact .inl he
      · rw [if_neg z] at h
        cases h
    · by_cases z : v = e.2
      · rw [if_pos z, List.mem_singleton] at h
        rw [z, h]
        exact .inr he
      · rw [if_neg z] at h
        cases h
  · rintro (h | h)
    · exact ⟨_, h, List.mem_append_left _ (by simp)⟩
    · exact ⟨_, h, List.mem_append_right _ (by simp)⟩
theorem gr_rows : gr (rowsOf n es) u v = true ↔ u < n ∧ ((u, v) ∈ es ∨ (v, u) ∈ es) := by
  by_cases h : u < n
  · have e : (rowsOf n es)[u]? = some (srt (nbr es u)) := by
      unfold rowsOf
      rw [List.getElem?_map, List.getElem?_range h]
      rfl
    rw [gr_get e, decide_eq_true_eq, (K67M.srt_perm _).mem_iff, mem_nbr]
    exact ⟨fun z => ⟨h, z⟩, fun z => z.2⟩
  · unfold gr
    rw [List.getD_eq_getElem?_getD, List.getElem?_eq_none (by rw [rows_len]; omega)]
    exact ⟨fun z => by simp at z, fun z => absurd z.1 h⟩
theorem gr_ok (h : EdgesOk n es) : Ok n (gr (rowsOf n es)) := by
  refine ⟨fun {u v} g => ?_, fun {u v} g => ?_, fun {u} => ?_⟩
  · obtain ⟨h1, h2 | h2⟩ := gr_rows.mp g
    · have := h.2 _ h2
      exact ⟨h1, this.2⟩
    · have := h.2 _ h2
      exact ⟨h1, Nat.lt_trans this.1 this.2⟩
  · obtain ⟨h1, h2 | h2⟩ := gr_rows.mp g
    · exact gr_rows.mpr ⟨(h.2 _ h2).2, .inr h2⟩
    · exact gr_rows.mpr ⟨Nat.lt_trans (h.2 _ h2).1 (h.2 _ h2).2, .inl h2⟩
  · cases e : gr (rowsOf n es) u u with
    | false => rfl
    | true =>
      obtain ⟨h1, h2 | h2⟩ := gr_rows.mp e
      · exact absurd (h.2 _ h2).1 (Nat.lt_irrefl _)
      · exact absurd (h.2 _ h2).1 (Nat.lt_irrefl _)
theorem nbr_app {e : Nat × Nat} : nbr (es ++ [e]) v = nbr es v ++ ((if v = e.1 then [e.2] else []) ++ (if v = e.2 then [e.1] else [])) := by
  unfold nbr
  rw [List.flatMap_append]
  simp
theorem nbr_len : (nbr es v).length ≤ 2 * es.length := by
  unfold nbr
  induction es with
  | nil => exact Nat.zero_le _
  | cons e es ih =>
    rw [List.flatMap_cons, List.length_append, List.length_append, List.length_cons]
    have h1 : (if v = e.1 then [e.2] else []).length ≤ 1 := by split <;> simp
    have h2 : (if v = e.2 then [e.1] else []).length ≤ 1 := by split <;> simp
    omega
/-- there are few edges -/
theorem edges_few (h : EdgesOk n es) (hn : n ≤ 40) : es.length ≤ 2000 := by
  have nd : es.Nodup := List.nodup_iff_pairwise_ne.mpr (h.1.imp fun {a b} q e => by
    subst e
    rcases q with q | q
    · exact Nat.lt_irrefl _ q
    · exact Nat.lt_irrefl _ q.2)
  have := K67M.nodup_sub (m := (List.range n).flatMap fun u => (List.range n).map fun v => (u, v)) nd fun e he => by
    have := h.2 e he
    rw [List.mem_flatMap]
    exact ⟨e.1, List.mem_range.mpr (by omega), List.mem_map.mpr ⟨e.2, List.mem_range.mpr this.2, rfl⟩⟩
  have h2 : ((List.range n).flatMap fun u => (List.range n).map fun v => (u, v)).length = n * n := by
    rw [List.length_flatMap]
    simp only [List.length_map, List.length_range]
    rw [List.map_const', List.sum_replicate_nat, List.length_range]
  rw [h2] at this
  have := Nat.mul_le_mul hn hn
  omega
end
/-! ### rows that grow -/
structure RowsAt (N : Addr → Prop) (H : Hp) (ys : List V) (f : Nat → List Nat) (n : Nat) : Prop where
  len : ys.length = n
  nd : ys.Nodup
  at_ : ∀ v, v < n → ∃ p, ys[v]? = some (.ref p) ∧ N p ∧ H p = some (.lst (nL (f v)))
theorem RowsAt.app {N : Addr → Prop} {H : Hp} {ys : List V} {f : Nat → List Nat} {n u w : Nat} {p : Addr} (h : RowsAt N H ys f n) (hu : u < n) (hp : ys[u]? = some (.ref p)) :
    RowsAt N (upd H p (.lst (nL (f u) ++ [nI w]))) ys (fun v => f v ++ (if v = u then [w] else [])) n := by
  refine ⟨h.len, h.nd, fun v hv => ?_⟩
  obtain ⟨q, h1, h2, h3⟩ := h.at_ v hv
  by_cases e : v = u
  · subst e
    rw [hp] at h1
    cases h1
    refine ⟨p, hp, h2, ?_⟩
    rw [if_pos rfl, upd_same, nL_app]
    rfl
  · refine ⟨q, h1, h2, ?_⟩
    have hqp : q ≠ p := fun z => by
      obtain ⟨l1, l2⟩ := List.getElem?_eq_some_iff.mp h1
      obtain ⟨l3, l4⟩ := List.getElem?_eq_some_iff.mp hp
      have nd := List.pairwise_iff_getElem.mp (List.nodup_iff_pairwise_ne.mp h.nd)
      rcases Nat.lt_or_gt_of_ne e with q | q
      · exact nd v u l1 l3 q (by rw [l2, l4, z])
      · exact nd u v l3 l1 q (by rw [l2, l4, z])
    rw [if_neg e, List.append_nil, upd_ne hqp]
    exact h3
theorem RowsAt.upd {N : Addr → Prop} {H : Hp} {ys : List V} {f : Nat → List Nat} {n : Nat} {a : Addr} {o : HO} (h : RowsAt N H ys f n) (ha : ¬ N a) : RowsAt N (L2.upd H a o) ys f n :=
  ⟨h.len, h.nd, fun v hv => by
    obtain ⟨q, h1, h2, h3⟩ := h.at_ v hv
    exact ⟨q, h1, h2, by rw [upd_ne (fun z => ha (by rw [← z]; exact h2))]; exact h3⟩⟩
theorem RowsAt.ex {N : Addr → Prop} {H H' : Hp} {ys : List V} {f : Nat → List Nat} {n : Nat} (h : RowsAt N H ys f n) (e : Ex H H') : RowsAt N H' ys f n :=
  ⟨h.len, h.nd, fun v hv => by
    obtain ⟨q, h1, h2, h3⟩ := h.at_ v hv
    exact ⟨q, h1, h2, e _ _ h3⟩⟩
theorem RowsAt.start {H0 H : Hp} {D : Addr} {ys : List V} {n : Nat} (h : Paired (NewL H0 D H) ys ((List.range n).map fun _ => [])) (nd : ys.Nodup) : RowsAt (fun p => H0 p = none ∧ p ≠ D) H ys (fun _ => []) n := by
  have hl : ys.length = n := by
    have : ys.length = _ := Paired.length h
    rw [List.length_map, List.length_range] at this
    exact this
  refine ⟨hl, nd, fun v hv => ?_⟩
  obtain ⟨x, h1, p, rfl, h2, h2', h3⟩ := paired_getR (i := v) (y := []) h (by rw [List.getElem?_map, List.getElem?_range hv]; rfl)
  exact ⟨p, h1, ⟨h2, h2'⟩, h3⟩
theorem RowsAt.paired {N : Addr → Prop} {H : Hp} {ys : List V} {f : Nat → List Nat} {n : Nat} (h : RowsAt N H ys f n) : Paired (LstN H) ys ((List.range n).map f) := by
  have : ∀ (ys : List V) (m : Nat) (g : Nat → List Nat), ys.length = m → (∀ v, v < m → ∃ p, ys[v]? = some (.ref p) ∧ H p = some (.lst (nL (g v)))) → Paired (LstN H) ys ((List.range m).map g) := by
    intro ys
    induction ys with
    | nil =>
      intro m g hm _
      have : m = 0 := hm.symm
      subst this
      exact .nil
    | cons y ys ih =>
      intro m g hm hat
      cases m with
      | zero => cases hm
      | succ m =>
        rw [List.range_succ_eq_map, List.map_cons, List.map_map]
        obtain ⟨p, h1, h2⟩ := hat 0 (Nat.succ_pos _)
        refine .cons ⟨p, Option.some.inj h1, h2⟩ (ih m (g ∘ Nat.succ) (Nat.succ.inj hm) fun v hv => ?_)
        obtain ⟨p, h1, h2⟩ := hat (v + 1) (by omega)
        exact ⟨p, by simpa using h1, h2⟩
  refine this ys n f h.len fun v hv => ?_
  obtain ⟨p, h1, _, h2⟩ := h.at_ v hv
  exact ⟨p, h1, h2⟩
theorem RowsAt.fn {N : Addr → Prop} {H : Hp} {ys : List V} {f g : Nat → List Nat} {n : Nat} (h : RowsAt N H ys f n) (e : ∀ v, f v = g v) : RowsAt N H ys g n := by
  have : f = g := funext e
  rw [← this]
  exact h
theorem le_pair {a b c d : Int} (h : c < a ∨ (c = a ∧ d < b)) : Ob.lexAt (fun j => decide ([a, b].getD j 0 = [c, d].getD j 0)) (fun j => decide ([a, b].getD j 0 ≤ [c, d].getD j 0)) (decide (([a, b] : List Int).length ≤ ([c, d] : List Int).length)) 0 (min ([a, b] : List Int).length ([c, d] : List Int).length) = false := by
  show (if decide (a = c) = true then (if decide (b = d) = true then decide (2 ≤ 2) else decide (b ≤ d)) else decide (a ≤ c)) = false
  rcases h with h | ⟨h1, h2⟩
  · rw [if_neg (by rw [decide_eq_true_eq]; omega), decide_eq_false_iff_not]
    omega
  · rw [if_pos (by rw [decide_eq_true_eq]; omega), if_neg (by rw [decide_eq_true_eq]; omega), decide_eq_false_iff_not]
    omega
section
variable {P : Program} {w : World} {K : PySem.W.Frag} {mg : Str → Option Value} {base : Heap} {C CT CB : Addr}
def spEdges : Sp := fun vs H Q _ => ∃ (n : Nat) (a : Addr) (es : List (Nat × Nat)), vs = [nI n, .ref a] ∧ n ≤ 40 ∧ LOf PairV H a es ∧ EdgesOk n es ∧ ∀ H', Ex H H' → Q .non H'
/-- the edge before place j -/
def lastE (es : List (Nat × Nat)) (j : Nat) : Int × Int := match j with
  | 0 => (-1, -1)
  | i + 1 => (((es.getD i (0, 0)).1 : Int), ((es.getD i (0, 0)).2 : Int))
theorem lastE_lt {n : Nat} {es : List (Nat × Nat)} {j : Nat} {e : Nat × Nat} (h : EdgesOk n es) (he : es[j]? = some e) : (lastE es j).1 < (e.1 : Int) ∨ ((lastE es j).1 = (e.1 : Int) ∧ (lastE es j).2 < (e.2 : Int)) := by
  cases j with
  | zero =>
    left
    show (-1 : Int) < _
    omega
  | succ i =>
    obtain ⟨h1, h2⟩ := List.getElem?_eq_some_iff.mp he
    have h3 : i < es.length := by omega
    have := List.pairwise_iff_getElem.mp h.1 i (i + 1) h3 h1 (Nat.lt_succ_self _)
    rw [h2] at this
    have e1 : es.getD i (0, 0) = es[i] := by rw [List.getD_eq_getElem?_getD, List.getElem?_eq_getElem h3, Option.getD_some]
    show ((es.getD i (0, 0)).1 : Int) < _ ∨ (((es.getD i (0, 0)).1 : Int) = _ ∧ ((es.getD i (0, 0)).2 : Int) < _)
    rw [e1]
    rcases this with q | q
    · exact .inl (by omega)
    · exact .inr ⟨by omega, by omega⟩
theorem sc_check_edges : FnScope ["nodes", "edges", "last", "edge"] ["nodes", "edges"] (defScope (top 11)) := ⟨rfl, rfl, rfl, by decide +kernel, rfl, by decide +kernel, by decide +kernel⟩
theorem cal_check_edges (T : Txt K mg C CT CB) (D : Df K mg "check_edges" 11) (c_is_integer : Cal P w K mg base 1 "is_integer" spInt) (c_is_index : Cal P w K mg base 2 "is_index" spIdx) : Cal P w K mg base 3 "check_edges" spEdges := by
  refine cal_mk D sc_check_edges (fun _ _ _ _ _ _ us hl => match us, hl with | [_, _], _ => rfl) (fun vs H Q E h => ?_) (fun f cdv A outer s H vs Q E hr h => ?_)
  · obtain ⟨n, a, es, rfl, _⟩ := h
    rfl
  · obtain ⟨n, a, es, rfl, hn, ⟨xs, ha, hxs⟩, hes, q⟩ := h
    refine ⟨_, (pss_cons (ps_if (PW.pt (pw_or (pt_not (pt_val (pe_c c_is_integer hr (by decide) rfl (pa_cons (pv 0) pa_nil)))) (pw_or1 (pt_not (pt_chain op_le op_le pe_int (pv 0) (pe_gi T.iMOST)))))) (pss_one ps_never) pss_nil)
      (pss_cons (ps_if (pt_not (pt_val (pe_callB (isiK K) (by rfl) T.zisinstance (by decide +kernel) (pa_cons (pv 1) (pa_cons (pe_bltn (v := .ty "list") (by rfl) T.zlist (by decide +kernel) rfl) pa_nil))))) (pss_one ps_never) pss_nil)
      (pss_cons (ps_set (i := 2) sc_check_edges.nd rfl (.inl rfl) (pe_tup (pa_cons (pe_un un_neg pe_int) (pa_cons (pe_un un_neg pe_int) pa_nil))))
      (pss_one (ps_for PassesOwn.never rfl (pilK K (pv 1)) (pg_name (i := 3) sc_check_edges.nd rfl (.inl rfl)) (pss_cons (ps_if (PW.pt (pw_or (pt_not (pt_val (pe_callB (isiK K) (by rfl) T.zisinstance (by decide +kernel) (pa_cons (pv 3) (pa_cons (pe_bltn (v := .ty "tuple") (by rfl) T.ztuple (by decide +kernel) rfl) pa_nil))))) (pw_or1 (pt_cmpR op_ne (pe_callB (lenK K) (by rfl) T.zlen PySem.boot_len (pa_cons (pv 3) pa_nil)) pe_int (nomark _))))) (pss_one ps_never) pss_nil)
      (pss_cons (ps_if (PW.pt (pw_or (pt_not (pt_val (pe_c c_is_index hr (by decide) rfl (pa_cons (pe_ix (ixTK K) (pv 3) pe_int (fun _ _ => rfl)) (pa_cons (pv 0) pa_nil))))) (pw_or1 (pt_not (pt_val (pe_c c_is_index hr (by decide) rfl (pa_cons (pe_ix (ixTK K) (pv 3) pe_int (fun _ _ => rfl)) (pa_cons (pv 0) pa_nil)))))))) (pss_one ps_never) pss_nil)
      (pss_cons (ps_if (PW.pt (pw_or (pt_cmpR op_ge (pe_ix (ixTK K) (pv 3) pe_int (fun _ _ => rfl)) (pe_ix (ixTK K) (pv 3) pe_int (fun _ _ => rfl)) (nomark _)) (pw_or1 (pt_cmpR (op_leT hr.units0) (pv 3) (pv 2) (nomark _))))) (pss_one ps_never) pss_nil)
      (pss_one (ps_set (i := 2) sc_check_edges.nd rfl (.inl rfl) (pv 3))))))))))), ?_⟩
    refine ⟨_, rfl, (n : Int), rfl, true, rfl, iteF ⟨_, rfl, _, _, rfl, rfl, true, congrArg V.bl (decide_eq_true (by omega)), iteT ⟨_, _, rfl, rfl, true, congrArg V.bl (decide_eq_true (by omega)), iteF ?_⟩⟩⟩
    refine ⟨_, rfl, _, _, _, _, true, rfl, .ty _, ty_lst ha, kit_ty kb_list_list, true, rfl, iteF ?_⟩
    refine ⟨1, rfl, 1, rfl, small (by show 2 ≤ 10000000; decide), fun t0 nt0 => ?_⟩
    have e0 := ex_new (o := .tup [V.int (-1), V.int (-1)]) nt0
    refine ⟨_, rfl, a, rfl, ⟨_, in2 (e0 _ _ ha)⟩, ?_⟩
    refine for_list (xs := xs) (fun j σ' H' => ∃ (c : Addr) (o3 : Option V), σ' = [some (nI n), some (.ref a), some (.ref c), o3] ∧ Ex H H' ∧ H' c = some (.tup ([(lastE es j).1, (lastE es j).2].map V.int))) ⟨t0, none, rfl, e0, upd_same⟩ (fun j σ' H' _ hP => ?_) (fun j x σ' H' hx hP => ?_) (fun σ' H' hP => ?_)
    · obtain ⟨_, _, _, e2, _⟩ := hP
      exact in2 (e2 _ _ ha)
    · obtain ⟨c, o3, rfl, e1, hc⟩ := hP
      obtain ⟨e, he, hxe⟩ := paired_get hxs hx
      obtain ⟨t, rfl, ht⟩ := hxe.tm (Tm.of e1)
      have hee := hes.2 e (List.mem_of_getElem? he)
      refine ⟨_, rfl, _, _, _, _, true, rfl, .ty _, ty_tup ht, kit_ty kb_tuple_tuple, true, rfl, iteF ⟨_, rfl, t, _, rfl, .inr (in3 ht), rfl, false, rfl, iteF ?_⟩⟩
      refine ⟨_, rfl, t, _, _, nI e.1, rfl, rfl, in3 ht, atI_nat (j := 0) rfl, _, rfl, (e.1 : Int), (n : Int), rfl, true, congrArg V.bl (decide_eq_true ⟨by omega, by omega⟩), iteF ?_⟩
      refine ⟨_, rfl, t, _, _, nI e.2, rfl, rfl, in3 ht, atI_nat (j := 1) rfl, _, rfl, (e.2 : Int), (n : Int), rfl, true, congrArg V.bl (decide_eq_true ⟨by omega, by omega⟩), iteF ?_⟩
      refine ⟨_, rfl, t, _, _, nI e.1, rfl, rfl, in3 ht, atI_nat (j := 0) rfl, _, rfl, t, _, _, nI e.2, rfl, rfl, in3 ht, atI_nat (j := 1) rfl, _, _, rfl, rfl, false, congrArg V.bl (decide_eq_false (by omega)), iteF ?_⟩
      refine ⟨_, rfl, _, rfl, t, c, [(e.1 : Int), (e.2 : Int)], _, rfl, rfl, in3 ht, in3 hc, false, congrArg V.bl (le_pair (lastE_lt hes he)), iteF ⟨_, rfl, t, some (.ref t), rfl, e1, ?_⟩⟩
      have e2 : lastE es (j + 1) = ((e.1 : Int), (e.2 : Int)) := by
        show (((es.getD j (0, 0)).1 : Int), ((es.getD j (0, 0)).2 : Int)) = _
        rw [List.getD_eq_getElem?_getD, he]
        rfl
      rw [e2]
      exact ht
    · obtain ⟨c, o3, rfl, e1, hc⟩ := hP
      exact q _ e1
end
end K67
set_option Elab.async false
set_option linter.all false
set_option maxRecDepth 100000
set_option maxHeartbeats 2000000
namespace K67
open PySem PySem.Spec PyProof.Rows L2
open K67M (Gr comp IsPos Holds Gf Ok Reach srt ins del)
structure DfC (K : PySem.W.Frag) (mg : Str → Option Value) (C : Addr) : Prop where
  ex : ∃ f fd, FunD K "__init__" "Graph.__init__" (defArgs (inClass (top 12) 0)) (defBody (inClass (top 12) 0)) (defScope (inClass (top 12) 0)) [] [] f fd ∧ Mk K C f ∧ mg "Graph" = some (.ref C)
/-- all but one stays -/
def Exb (x : Addr) (H H' : Hp) : Prop := ∀ b o, b ≠ x → H b = some o → H' b = some o
theorem Exb.trans {x : Addr} {H H1 H2 : Hp} (a : Exb x H H1) (b : Exb x H1 H2) : Exb x H H2 := fun c o h e => b c o h (a c o h e)
theorem Exb.of {x : Addr} {H H' : Hp} (e : Ex H H') : Exb x H H' := fun b o _ h => e b o h
theorem Exb.self {x : Addr} {H : Hp} {o : HO} : Exb x H (upd H x o) := fun b o h e => by
  rw [upd_ne h]
  exact e
theorem Exb.new {x p : Addr} {H H' : Hp} {o : HO} (e : Exb x H H') (n : H p = none) : Exb x H (upd H' p o) := fun b o h z => by
  have : b ≠ p := fun q => by
    rw [q, n] at z
    cases z
  rw [upd_ne this]
  exact e b o h z
def spInit (C : Addr) : Sp := fun vs H Q _ => ∃ (x a dx : Addr) (n : Nat) (es : List (Nat × Nat)), vs = [.ref x, nI n, .ref a] ∧ H x = some (.ins C dx []) ∧ n ≤ 40 ∧ LOf PairV H a es ∧ EdgesOk n es ∧
  ∀ H' e l, Exb x H H' → H' x = some (.ins C dx (flds n e l)) → LOf LstN H' l (rowsOf n es) → Q .non H'
theorem PairV.exb {x : Addr} {H H' : Hp} {v : V} {p : Nat × Nat} {C dx : Addr} {fs : List (Str × V)} (e : Exb x H H') (hx : H x = some (.ins C dx fs)) (h : PairV H v p) : PairV H' v p := by
  obtain ⟨q, e1, e2⟩ := h
  exact ⟨q, e1, e _ _ (fun z => by rw [z, hx] at e2; cases e2) e2⟩
theorem putF_len (f : Str) (v : V) : ∀ fs : List (Str × V), (putF f v fs).length ≤ fs.length + 1
  | [] => Nat.le_refl _
  | (g, x) :: r => by
    have ih := putF_len f v r
    rw [putF]
    split
    · rw [List.length_cons, List.length_cons]
      omega
    · rw [List.length_cons, List.length_cons]
      omega
theorem put_links (n : Nat) (e l m : Addr) : putF ("links" : Str) (.ref m) (flds n e l) = flds n e m := by
  unfold flds
  rw [putF, if_neg (by decide +kernel), putF, if_neg (by decide +kernel), putF, if_pos rfl]
theorem put_all (n : Nat) (e l : Addr) : putF ("links" : Str) (.ref l) (putF ("edges" : Str) (.ref e) (putF ("nodes" : Str) (nI n) [])) = flds n e l := by
  unfold flds
  rw [putF, putF, if_neg (by decide +kernel), putF, putF, if_neg (by decide +kernel), putF, if_neg (by decide +kernel), putF]
section
variable {P : Program} {w : World} {K : PySem.W.Frag} {mg : Str → Option Value} {base : Heap} {C CT CB : Addr}
theorem sc_Graph___init__ : FnScope ["self", "nodes", "edges", "first", "second", "_", "row"] ["self", "nodes", "edges"] (defScope (inClass (top 12) 0)) := ⟨rfl, rfl, rfl, by decide +kernel, rfl, by decide +kernel, by decide +kernel⟩
theorem mak_graph (T : Txt K mg C CT CB) (D : DfC K mg C) (c_check_edges : Cal P w K mg base 3 "check_edges" spEdges) : Mak P w K mg base 4 "Graph" C (spInit C) := by
  obtain ⟨f, fd, F, M, g⟩ := D.ex
  refine ⟨f, fd, ["self", "nodes", "edges"], M, F.ok sc_Graph___init__ (fun vs H Q E h => ?_) fun cdv A outer s H vs Q E hr h => ?_, g, F.bindsN fun _ _ _ _ _ _ us hl => match us, hl with | [_, _, _], _ => rfl⟩
  · obtain ⟨x, a, dx, n, es, rfl, _⟩ := h
    rfl
  · obtain ⟨x, a, dx, n, es, rfl, hx, hn, hLa, hes, q⟩ := h
    suffices hh : ∃ t, PSs (cxOf CX0 P w K mg base ["self", "nodes", "edges", "first", "second", "_", "row"] "Graph.__init__" (defScope (inClass (top 12) 0)) f cdv A outer s H E).nox (defBody (inClass (top 12) 0)) t ∧ t { nx := fun _ H' => Q .non H', rt := Q } (start ["self", "nodes", "edges", "first", "second", "_", "row"] [.ref x, nI n, .ref a]) H by
      obtain ⟨t, a, b⟩ := hh
      exact ⟨t, a.nox, b⟩
    refine ⟨_, (pss_cons (ps_expr (pe_c c_check_edges hr (by decide) rfl (pa_cons (pv 1) (pa_cons (pv 2) pa_nil))))
      (pss_cons (ps_fld (pv 0) (pv 1) rfl)
      (pss_cons (ps_fld (pv 0) (pe_callTy (lstK K) (by rfl) T.zlist (by decide +kernel) (pa_cons (pv 2) pa_nil)) rfl)
      (pss_cons (ps_fld (pv 0) (pe_lc (own := [("_", 5)]) rfl sc_Graph___init__.nd (pi_range1 rfl T.zrange (pa_cons (pv 1) pa_nil)) (blkOk_by (N := ["self", "nodes", "edges", "first", "second", "_", "row"]) (sc := defScope (inClass (top 12) 0)) (by decide +kernel)) (fun _ _ _ _ _ => (pg_name (i := 5) sc_Graph___init__.nd rfl (by first | exact .inl rfl | exact .inr rfl))) (fun _ _ _ _ _ => pts_nil) (fun _ _ _ _ _ => (pe_lst pa_nil))) rfl)
      (pss_cons (ps_for PassesOwn.never rfl (pilK K (pv 2)) (gtupK K rfl (pgs_cons (pg_name (i := 3) sc_Graph___init__.nd rfl (.inl rfl)) (pgs_cons (pg_name (i := 4) sc_Graph___init__.nd rfl (.inl rfl)) pgs_nil))) (pss_cons (ps_expr (pe_bm PySem.F.plainAttrs_list PySem.F.slot_list_append PySem.F.type_list_append mt_append (pe_ix (ixLK K) (fldK K (pv 0)) (pv 3) (fun _ _ => rfl)) (pa_cons (pv 4) pa_nil)))
      (pss_one (ps_expr (pe_bm PySem.F.plainAttrs_list PySem.F.slot_list_append PySem.F.type_list_append mt_append (pe_ix (ixLK K) (fldK K (pv 0)) (pv 4) (fun _ _ => rfl)) (pa_cons (pv 3) pa_nil))))))
      (pss_one (ps_fld (pv 0) (pe_lc (own := [("row", 6)]) rfl sc_Graph___init__.nd (pilK K (fldK K (pv 0))) (blkOk_by (N := ["self", "nodes", "edges", "first", "second", "_", "row"]) (sc := defScope (inClass (top 12) 0)) (by decide +kernel)) (fun _ _ _ _ _ => (pg_name (i := 6) sc_Graph___init__.nd rfl (by first | exact .inl rfl | exact .inr rfl))) (fun _ _ _ _ _ => pts_nil) (fun _ _ _ _ _ => (pe_callB (srtK K) (by rfl) T.zsorted (by decide +kernel) (pa_cons (pv 6) pa_nil)))) rfl))))))), ?_⟩
    obtain ⟨xs, ha, hxs⟩ := id hLa
    have hfew := edges_few hes hn
    have hxl : xs.length = es.length := Paired.length hxs
    have ax : a ≠ x := fun z => by
      rw [z, hx] at ha
      cases ha
    refine ⟨_, rfl, _, rfl, n, a, es, rfl, hn, hLa, hes, fun H1 e1 => ?_⟩
    refine ⟨_, rfl, _, rfl, x, C, dx, [], rfl, e1 _ _ hx, T.cl, T.nNodes, by decide, ?_⟩
    have hx2 : upd H1 x (.ins C dx (putF "nodes" (nI n) [])) x = some (.ins C dx (putF "nodes" (nI n) [])) := upd_same
    have b2 : Exb x H (upd H1 x (.ins C dx (putF "nodes" (nI n) []))) := (Exb.of e1).trans .self
    have n2 : ∀ p, upd H1 x (.ins C dx (putF "nodes" (nI n) [])) p = none → H p = none := fun p h => by
      by_cases z : p = x
      · rw [z, upd_same] at h
        cases h
      · rw [upd_ne z] at h
        exact ex_none e1 h
    generalize upd H1 x (.ins C dx (putF "nodes" (nI n) [])) = H2 at hx2 b2 n2 ⊢
    refine ⟨_, rfl, a, _, rfl, .inl (in2 (b2 _ _ ax ha)), fun l nl => ?_⟩
    have e3 := ex_new (o := .lst xs) nl
    have hl3 : upd H2 l (.lst xs) l = some (.lst xs) := upd_same
    have n3 : ∀ p, upd H2 l (.lst xs) p = none → H p = none := fun p h => n2 p (ex_none e3 h)
    have nlH := n2 l nl
    generalize upd H2 l (.lst xs) = H3 at e3 hl3 n3 ⊢
    refine ⟨_, rfl, x, C, dx, _, rfl, e3 _ _ hx2, T.cl, T.nEdges, Nat.lt_of_le_of_lt (putF_len _ _ _) (by decide), ?_⟩
    have lx : l ≠ x := fun z => by
      rw [z, hx] at nlH
      cases nlH
    have hx4 : upd H3 x (.ins C dx (putF "edges" (.ref l) (putF "nodes" (nI n) []))) x = some (.ins C dx (putF "edges" (.ref l) (putF "nodes" (nI n) []))) := upd_same
    have b4 : Exb x H (upd H3 x (.ins C dx (putF "edges" (.ref l) (putF "nodes" (nI n) [])))) := (b2.trans (.of e3)).trans .self
    have n4 : ∀ p, upd H3 x (.ins C dx (putF "edges" (.ref l) (putF "nodes" (nI n) []))) p = none → H p = none := fun p h => by
      by_cases z : p = x
      · rw [z, upd_same] at h
        cases h
      · rw [upd_ne z] at h
        exact n3 p h
    generalize upd H3 x (.ins C dx (putF "edges" (.ref l) (putF "nodes" (nI n) []))) = H4 at hx4 b4 n4 ⊢
    refine ⟨_, rfl, _, rfl, by omega, by omega, fun D1 nD1 => ?_⟩
    rw [show ((n : Nat) : Int).toNat = n from Int.toNat_natCast _]
    refine lc_llR (g := fun _ => []) nD1 (by omega) (fun _ => rfl) (fun i hi => fun H5 e5 Q' q' => ⟨Nat.zero_le _, fun p np => q' p _ (ex_new np) np upd_same⟩) fun H5 ys e5 hD1 hys ynd => ?_
    have hra := RowsAt.start hys ynd
    refine ⟨_, rfl, x, C, dx, _, rfl, e5 _ _ hx4, T.cl, T.nLinks, Nat.lt_of_le_of_lt (Nat.le_trans (putF_len _ _ _) (Nat.add_le_add_right (putF_len _ _ _) 1)) (by decide), ?_⟩
    rw [put_all]
    have nD1H := n4 D1 nD1
    have Dx : D1 ≠ x := fun z => by
      rw [z, hx] at nD1H
      cases nD1H
    have hx6 : upd H5 x (.ins C dx (flds n l D1)) x = some (.ins C dx (flds n l D1)) := upd_same
    have b6 : Exb x H (upd H5 x (.ins C dx (flds n l D1))) := (b4.trans (.of e5)).trans .self
    have hD6 : upd H5 x (.ins C dx (flds n l D1)) D1 = some (.lst ys) := by rw [upd_ne Dx]; exact hD1
    have hra6 : RowsAt (fun p => H4 p = none ∧ p ≠ D1) (upd H5 x (.ins C dx (flds n l D1))) ys (fun _ => []) n := hra.upd (fun z => by rw [hx4] at z; exact nomatch z.1)
    have n6 : ∀ p, H4 p = none → H p = none := n4
    have xD4 : H4 D1 = none := nD1
    generalize upd H5 x (.ins C dx (flds n l D1)) = H6 at hx6 b6 hD6 hra6 ⊢
    refine ⟨_, rfl, a, rfl, ⟨_, in2 (b6 _ _ ax ha)⟩, ?_⟩
    refine for_list (xs := xs) (fun j σ' H' => ∃ o3 o4 : Option V, σ' = [some (.ref x), some (nI n), some (.ref a), o3, o4, none, none] ∧ Exb x H H' ∧ H' x = some (.ins C dx (flds n l D1)) ∧ H' D1 = some (.lst ys) ∧ RowsAt (fun p => H4 p = none ∧ p ≠ D1) H' ys (nbr (es.take j)) n)
      ⟨none, none, rfl, b6, hx6, hD6, hra6.fn fun v => rfl⟩ (fun j σ' H' _ hP => ?_) (fun j x' σ' H' hx' hP => ?_) (fun σ' H' hP => ?_)
    · obtain ⟨_, _, _, b7, _⟩ := hP
      exact in2 (b7 _ _ ax ha)
    · obtain ⟨o3, o4, rfl, b7, hx7, hD7, hra7⟩ := hP
      obtain ⟨e, he, hxe⟩ := paired_get hxs hx'
      obtain ⟨t, rfl, ht⟩ := hxe.exb b7 hx
      have hee := hes.2 e (List.mem_of_getElem? he)
      have h1n : e.1 < n := by omega
      obtain ⟨p1, hp1, np1, hq1⟩ := hra7.at_ e.1 h1n
      obtain ⟨p2, hp2, np2, hq2'⟩ := hra7.at_ e.2 hee.2
      have hnb1 := nbr_len (v := e.1) (es := es.take j)
      have hnb2 := nbr_len (v := e.2) (es := es.take j)
      rw [List.length_take] at hnb1 hnb2
      refine ⟨t, _, rfl, in3 ht, rfl, _, _, rfl, _, _, rfl, rfl, ?_⟩
      refine ⟨_, rfl, x, C, dx, _, _, rfl, hx7, T.cl, T.nLinks, flds_links _ _ _, _, rfl, D1, _, _, .ref p1, rfl, rfl, in2 hD7, atI_nat hp1, .inl ⟨rfl, _, in2 hq1⟩, _, rfl, p1, _, _, rfl, rfl, hq1, by rw [nL_len]; exact smallT (by omega), ?_⟩
      have hra8 := hra7.app (w := e.2) h1n hp1
      have px : ∀ {p ys}, H' p = some (.lst ys) → x ≠ p := fun h z => by
        rw [← z, hx7] at h
        cases h
      have hx8 : upd H' p1 (.lst (nL (nbr (es.take j) e.1) ++ [nI e.2])) x = some (.ins C dx (flds n l D1)) := by rw [upd_ne (px hq1)]; exact hx7
      have hD8 : upd H' p1 (.lst (nL (nbr (es.take j) e.1) ++ [nI e.2])) D1 = some (.lst ys) := by rw [upd_ne (Ne.symm np1.2)]; exact hD7
      have b8 : Exb x H (upd H' p1 (.lst (nL (nbr (es.take j) e.1) ++ [nI e.2]))) := b7.new (n6 _ np1.1)
      generalize upd H' p1 (.lst (nL (nbr (es.take j) e.1) ++ [nI e.2])) = H8 at hra8 hx8 hD8 b8 ⊢
      obtain ⟨p2, hp2, np2, hq2⟩ := hra8.at_ e.2 hee.2
      have hle : (nL (nbr (es.take j) e.2 ++ if e.2 = e.1 then [e.2] else [])).length < sizeLine := by
        rw [nL_len, if_neg (by omega), List.append_nil]
        exact smallT (by omega)
      refine ⟨_, rfl, x, C, dx, _, _, rfl, hx8, T.cl, T.nLinks, flds_links _ _ _, _, rfl, D1, _, _, .ref p2, rfl, rfl, in2 hD8, atI_nat hp2, .inl ⟨rfl, _, in2 hq2⟩, _, rfl, p2, _, _, rfl, rfl, hq2, hle, ?_⟩
      have hra9 := hra8.app (w := e.1) hee.2 hp2
      have px2 : x ≠ p2 := fun z => by
        rw [← z, hx8] at hq2
        cases hq2
      refine ⟨_, _, rfl, b8.new (n6 _ np2.1), by rw [upd_ne px2]; exact hx8, by rw [upd_ne (Ne.symm np2.2)]; exact hD8, hra9.fn fun v => ?_⟩
      rw [List.take_add_one, he]
      show _ = nbr (es.take j ++ [e]) v
      rw [nbr_app, List.append_assoc]
    · obtain ⟨o3, o4, rfl, b7, hx7, hD7, hra7⟩ := hP
      rw [hxl, List.take_length] at hra7
      refine ⟨_, rfl, x, C, dx, _, _, rfl, hx7, T.cl, T.nLinks, flds_links _ _ _, D1, rfl, ⟨_, in2 hD7⟩, fun D2 nD2 => ?_⟩
      refine lc_ll (R := LstN H') (g := srt) (in2 hD7) hra7.paired nD2 (by rw [hra7.len]; omega) (fun _ => rfl) (fun y r hy hr' hyr => fun H8 e8 Q' q' => ?_) fun H8 zs e8 hD8 hzs _ => ?_
      · obtain ⟨p, rfl, hp⟩ := hyr
        refine ⟨_, rfl, p, _, rfl, in2 (by rw [e8 _ _ hp, nL_int]), fun ms p2 hpm hsd np2 => q' p2 _ (ex_new np2) np2 ?_⟩
        rw [upd_same, sorted_nat hpm hsd]
      · refine ⟨_, rfl, x, C, dx, _, rfl, e8 _ _ hx7, T.cl, T.nLinks, by show 3 < 1000; decide, ?_⟩
        rw [put_links]
        have n2x : D2 ≠ x := fun z => by
          rw [z, hx7] at nD2
          cases nD2
        refine q _ l D2 ((b7.trans (.of e8)).trans .self) upd_same ⟨zs, by rw [upd_ne n2x]; exact hD8, ?_⟩
        rw [List.map_map] at hzs
        refine L2.Paired.mapP hzs fun v r z => ?_
        obtain ⟨p, h1, h2, h3, h4⟩ := z
        have px : p ≠ x := fun z => by
          rw [z, hx7] at h2
          cases h2
        exact ⟨p, h1, by rw [upd_ne px]; exact h4⟩
end
end K67
set_option Elab.async false
set_option linter.all false
set_option maxRecDepth 100000
set_option maxHeartbeats 2000000
namespace K67
open PySem PySem.Spec PyProof.Rows L2
open K67M (Gr comp IsPos Holds Gf Ok Reach srt ins del)
/-! ### the law's numbers -/
def Dr (H : Hp) (d nl : Addr) : Prop := ∃ (ms : List Int) (i : Nat), H d = some (.lst [.ref nl, .int (i : Int)]) ∧ H nl = some (.lst (ms.map V.int)) ∧ ∀ m ∈ ms, 0 ≤ m
section
variable {H H' : Hp} {d nl : Addr}
theorem Dr.ne_int {a : Addr} {ns : List Int} (h : Dr H d nl) (e : H a = some (.lst (ns.map V.int))) : a ≠ d := fun z => by
  obtain ⟨ms, i, h1, _⟩ := h
  rw [z, h1] at e
  have e2 := HO.lst.inj (Option.some.inj e)
  cases ns with
  | nil => cases e2
  | cons n ns =>
    have := (List.cons.inj e2).1
    cases this
theorem Dr.ne_nl {a : Addr} {l : List Nat} (h : Dr H d nl) (e : H a = some (.lst (nL l))) : a ≠ d := h.ne_int (ns := l.map fun n : Nat => (n : Int)) (by rw [e, nL_int])
theorem Dr.ne_refs {a : Addr} {xs : List V} (h : Dr H d nl) (e : H a = some (.lst xs)) (hx : ∀ x ∈ xs, ∃ p, x = V.ref p) : a ≠ d := fun z => by
  obtain ⟨ms, i, h1, _⟩ := h
  rw [z, h1] at e
  have e2 := HO.lst.inj (Option.some.inj e)
  obtain ⟨p, hp⟩ := hx (.int (i : Int)) (by rw [← e2]; simp)
  cases hp
theorem Dr.ne_tup {a : Addr} {xs : List V} (h : Dr H d nl) (e : H a = some (.tup xs)) : a ≠ d := fun z => by
  obtain ⟨ms, i, h1, _⟩ := h
  rw [z, h1] at e
  cases e
theorem Dr.ex (h : Dr H d nl) (e : Ex H H') : Dr H' d nl := by
  obtain ⟨ms, i, h1, h2, h3⟩ := h
  exact ⟨ms, i, e _ _ h1, e _ _ h2, h3⟩
theorem Dr.tm (h : Dr H d nl) (e : Exb d H H') : Tm H H' := fun a xs q => e _ _ (h.ne_tup q) q
theorem LstN.dr {v : V} {l : List Nat} (q : LstN H v l) (h : Dr H d nl) (e : Exb d H H') : LstN H' v l := by
  obtain ⟨a, e1, e2⟩ := q
  exact ⟨a, e1, e _ _ (h.ne_nl e2) e2⟩
theorem Exb.none {x p : Addr} (e : Exb x H H') (h : H' p = none) (hx : H' x ≠ none) : H p = none := by
  cases q : H p with
  | none => rfl
  | some o =>
    have px : p ≠ x := fun z => hx (z ▸ h)
    rw [e _ _ px q] at h
    cases h
theorem Exb.refl {x : Addr} : Exb x H H := fun _ _ _ h => h
theorem Dr.some (h : Dr H d nl) : H d ≠ none := by
  obtain ⟨ms, i, h1, _⟩ := h
  rw [h1]
  exact nofun
theorem Dr.some2 (h : Dr H d nl) : H nl ≠ none := by
  obtain ⟨ms, i, _, h2, _⟩ := h
  rw [h2]
  exact nofun
theorem Dr.upd {a : Addr} {o : HO} (h : Dr H d nl) (h1 : a ≠ d) (h2 : a ≠ nl) : Dr (L2.upd H a o) d nl := by
  obtain ⟨ms, i, e1, e2, e3⟩ := h
  refine ⟨ms, i, by rw [upd_ne h1.symm]; exact e1, by rw [upd_ne h2.symm]; exact e2, e3⟩
end
theorem m6 : (0 : Int) < 1000000 := by decide
theorem m31 : (0 : Int) < 2147483647 := by decide
section
variable {P : Program} {w : World} {K : PySem.W.Frag} {mg : Str → Option Value} {base : Heap} {C CT CB : Addr}
def spMixed : Sp := fun vs H Q _ => ∃ a b : Int, vs = [.int a, .int b] ∧ ∀ r : Int, 0 ≤ r → Q (.int r) H
theorem sc_law_mixed : FnScope ["_law_number", "_law_k", "_law_step"] ["_law_number", "_law_k"] (defScope (top 31)) := ⟨rfl, rfl, rfl, by decide +kernel, rfl, by decide +kernel, by decide +kernel⟩
theorem cal_law_mixed (T : Txt K mg C CT CB) (D : Df K mg "_law_mixed" 31) : Cal P w K mg base 1 "_law_mixed" spMixed := by
  refine cal_mk D sc_law_mixed (fun _ _ _ _ _ _ us hl => match us, hl with | [_, _], _ => rfl) (fun vs H Q E h => ?_) (fun f cdv A outer s H vs Q E hr h => ?_)
  · obtain ⟨a, b, rfl, _⟩ := h
    rfl
  · obtain ⟨a, b, rfl, q⟩ := h
    refine ⟨_, (pss_cons (ps_set (i := 2) sc_law_mixed.nd rfl (.inl rfl) (pe_op op_mod (pe_op op_add (pe_op op_add (pe_op op_mul (pv 0) pe_int) (pe_op op_mul (pv 1) pe_int)) pe_int) pe_int))
      (pss_one (ps_ret (pe_op op_mod (pe_op op_add (pe_op op_mul (pv 2) (pe_op op_add (pe_op op_fdiv (pv 2) pe_int) pe_int)) (pv 1)) pe_int)))), ?_⟩
    refine ⟨_, rfl, _, _, rfl, rfl, .inr ⟨by decide, by decide⟩, ?_⟩
    refine ⟨_, rfl, _, _, rfl, rfl, .inr ⟨by decide, by decide⟩, ?_⟩
    refine ⟨_, _, rfl, rfl, _, _, rfl, rfl, _, _, rfl, rfl, m31, ?_⟩
    have h1 := Int.emod_nonneg (a * 48271 + b * 69621 + 12345) (by decide : (2147483647 : Int) ≠ 0)
    have h2 := Int.emod_lt_of_pos (a * 48271 + b * 69621 + 12345) (by decide : (0 : Int) < 2147483647)
    generalize (a * 48271 + b * 69621 + 12345) % 2147483647 = st at h1 h2 ⊢
    refine ⟨_, rfl, _, rfl, _, _, rfl, rfl, ⟨by decide, by decide⟩, _, _, rfl, rfl, _, _, rfl, rfl, .inl ⟨by omega, by omega⟩, _, rfl, _, _, rfl, rfl, _, _, rfl, rfl, m31, q _ (Int.emod_nonneg _ (by decide))⟩
def spNumbers (K : PySem.W.Frag) : Sp := fun vs H Q _ => ∃ (a : Addr) (ns : List Int), vs = [.ref a] ∧ SqL K H a (ns.map V.int) ∧ ns.length ≤ 63 ∧
  ∀ H' p (ms : List Int), Ex H H' → H p = none → H' p = some (.lst (ms.map V.int)) → (∀ m ∈ ms, 0 ≤ m) → Q (.ref p) H'
theorem sc_law_numbers : FnScope ["_law_script", "_law_numbers_here", "_law_cell", "_law_rest", "_law_k"] ["_law_script"] (defScope (top 32)) := ⟨rfl, rfl, rfl, by decide +kernel, rfl, by decide +kernel, by decide +kernel⟩
theorem cal_law_numbers (T : Txt K mg C CT CB) (D : Df K mg "_law_numbers" 32) (c_law_mixed : Cal P w K mg base 1 "_law_mixed" spMixed) : Cal P w K mg base 2 "_law_numbers" (spNumbers K) := by
  refine cal_mk D sc_law_numbers (fun _ _ _ _ _ _ us hl => match us, hl with | [_], _ => rfl) (fun vs H Q E h => ?_) (fun f cdv A outer s H vs Q E hr h => ?_)
  · obtain ⟨a, ns, rfl, _⟩ := h
    rfl
  · obtain ⟨a, ns, rfl, hs, hl, q⟩ := h
    refine ⟨_, (pss_cons (ps_set (i := 1) sc_law_numbers.nd rfl (.inl rfl) (pe_lst pa_nil))
      (pss_cons (ps_for PassesOwn.never rfl (pilK K (pv 0)) (pg_name (i := 2) sc_law_numbers.nd rfl (.inl rfl)) (pss_one (ps_if (pt_cmpR op_ge (pv 2) (pe_op op_pow pe_int pe_int) (nomark _)) (pss_cons (ps_set (i := 3) sc_law_numbers.nd rfl (.inl rfl) (pv 2))
      (pss_one (ps_for PassesOwn.never rfl (pi_range1 rfl T.zrange (pa_cons pe_int pa_nil)) (pg_name (i := 4) sc_law_numbers.nd rfl (.inl rfl)) (pss_one (ps_if (pt_cmpR op_gt (pv 3) pe_int (nomark _)) (pss_cons (ps_expr (pe_bm PySem.F.plainAttrs_list PySem.F.slot_list_append PySem.F.type_list_append mt_append (pv 1) (pa_cons (pe_op op_mod (pv 3) pe_int) pa_nil)))
      (pss_one (ps_set (i := 3) sc_law_numbers.nd rfl (.inl rfl) (pe_op op_fdiv (pv 3) pe_int)))) pss_nil))))) (pss_cons (ps_expr (pe_bm PySem.F.plainAttrs_list PySem.F.slot_list_append PySem.F.type_list_append mt_append (pv 1) (pa_cons (pe_op op_mod (pv 2) pe_int) pa_nil)))
      (pss_one (ps_for PassesOwn.never rfl (pi_range1 rfl T.zrange (pa_cons pe_int pa_nil)) (pg_name (i := 4) sc_law_numbers.nd rfl (.inl rfl)) (pss_one (ps_expr (pe_bm PySem.F.plainAttrs_list PySem.F.slot_list_append PySem.F.type_list_append mt_append (pv 1) (pa_cons (pe_op op_mod (pe_c c_law_mixed hr (by decide) rfl (pa_cons (pe_c c_law_mixed hr (by decide) rfl (pa_cons (pe_op op_mod (pv 2) pe_int) (pa_cons (pv 4) pa_nil))) (pa_cons (pe_op op_add (pv 4) pe_int) pa_nil))) pe_int) pa_nil))))))))))
      (pss_one (ps_ret (pv 1))))), ?_⟩
    refine ⟨Nat.zero_le _, fun p np => ?_⟩
    have e0 := ex_new (o := .lst []) np
    refine ⟨_, rfl, a, rfl, ⟨_, Evl.ex_l e0 hs⟩, ?_⟩
    refine for_list (xs := ns.map V.int) (fun j σ' H' => ∃ (o2 o3 o4 : Option V) (ms : List Int), σ' = [some (.ref a), some (.ref p), o2, o3, o4] ∧ Ex H H' ∧ H' p = some (.lst (ms.map V.int)) ∧ (∀ m ∈ ms, 0 ≤ m) ∧ ms.length ≤ 60 * j)
      ⟨none, none, none, [], rfl, e0, upd_same, fun m h => absurd h (by simp), Nat.zero_le _⟩ (fun j σ' H' _ hP => ?_) (fun j x σ' H' hx hP => ?_) (fun σ' H' hP => ?_)
    · obtain ⟨_, _, _, _, _, e1, _⟩ := hP
      exact Evl.ex_l e1 hs
    · obtain ⟨o2, o3, o4, ms, rfl, e1, hp, hm, hml⟩ := hP
      have hj : j < 63 := by
        have := (List.getElem?_eq_some_iff.mp hx).1
        rw [List.length_map] at this
        omega
      have hci : ∃ ci : Int, x = .int ci := by
        rw [List.getElem?_map] at hx
        cases z : ns[j]? with
        | none =>
          rw [z] at hx
          cases hx
        | some ci =>
          rw [z] at hx
          exact ⟨ci, (Option.some.inj hx).symm⟩
      obtain ⟨ci, rfl⟩ := hci
      have add : ∀ {H1 : Hp} {ms : List Int} {i : Int}, Ex H H1 → H1 p = some (.lst (ms.map V.int)) → Ex H (upd H1 p (.lst (ms.map V.int ++ [.int i]))) ∧ upd H1 p (.lst (ms.map V.int ++ [.int i])) p = some (.lst ((ms ++ [i]).map V.int)) := fun e h => ⟨ex_mut e np, by rw [upd_same, List.map_append]; rfl⟩
      refine ⟨_, rfl, _, _, rfl, rfl, ⟨by decide, by decide, by decide⟩, _, _, rfl, rfl, _, rfl, ?_⟩
      refine ite2 (fun c1 => ?_) (fun c1 => ?_)
      · refine ⟨_, rfl, _, rfl, by decide, by decide, ?_⟩
        refine for_range (n := 60) (fun i σ' H' => ∃ (o4 : Option V) (r : Int) (ms : List Int), σ' = [some (.ref a), some (.ref p), some (.int ci), some (.int r), o4] ∧ Ex H H' ∧ H' p = some (.lst (ms.map V.int)) ∧ (∀ m ∈ ms, 0 ≤ m) ∧ ms.length ≤ 60 * j + i)
          ⟨o4, ci, ms, rfl, e1, hp, hm, hml⟩ (fun i σ' H' hi hP => ?_) (fun σ' H' hP => ?_)
        · obtain ⟨o4, r, ms, rfl, e1, hp, hm, hml⟩ := hP
          refine ⟨_, rfl, _, _, rfl, rfl, _, rfl, ?_⟩
          refine ite2 (fun c2 => ?_) (fun c2 => ?_)
          · refine ⟨_, rfl, .inl ⟨rfl, _, in2 hp⟩, _, rfl, _, _, rfl, rfl, m6, p, _, _, rfl, rfl, hp, by rw [List.length_map]; exact smallT (by omega), ?_⟩
            obtain ⟨a1, a2⟩ := add (i := r % 1000000) e1 hp
            refine ⟨_, rfl, _, _, rfl, rfl, ⟨by decide, by decide⟩, _, _, _, rfl, a1, a2, fun m hm' => ?_, by rw [List.length_append, List.length_singleton]; omega⟩
            rcases List.mem_append.mp hm' with z | z
            · exact hm m z
            · rw [List.mem_singleton] at z
              rw [z]
              exact Int.emod_nonneg _ (by decide)
          · exact ⟨_, r, ms, rfl, e1, hp, hm, by omega⟩
        · obtain ⟨o4, r, ms, rfl, e1, hp, hm, hml⟩ := hP
          exact ⟨_, _, _, ms, rfl, e1, hp, hm, by omega⟩
      · refine ⟨_, rfl, .inl ⟨rfl, _, in2 hp⟩, _, rfl, _, _, rfl, rfl, m6, p, _, _, rfl, rfl, hp, by rw [List.length_map]; exact smallT (by omega), ?_⟩
        obtain ⟨a1, a2⟩ := add (i := ci % 1000000) e1 hp
        refine ⟨_, rfl, by decide, by decide, ?_⟩
        refine for_range (n := 5) (fun i σ' H' => ∃ (o4 : Option V) (ms : List Int), σ' = [some (.ref a), some (.ref p), some (.int ci), o3, o4] ∧ Ex H H' ∧ H' p = some (.lst (ms.map V.int)) ∧ (∀ m ∈ ms, 0 ≤ m) ∧ ms.length ≤ 60 * j + 1 + i)
          ⟨o4, ms ++ [ci % 1000000], rfl, a1, a2, fun m hm' => ?_, by rw [List.length_append, List.length_singleton]; omega⟩ (fun i σ' H' hi hP => ?_) (fun σ' H' hP => ?_)
        · rcases List.mem_append.mp hm' with z | z
          · exact hm m z
          · rw [List.mem_singleton] at z
            rw [z]
            exact Int.emod_nonneg _ (by decide)
        · obtain ⟨o4, ms, rfl, e1, hp, hm, hml⟩ := hP
          refine ⟨_, rfl, .inl ⟨rfl, _, in2 hp⟩, _, rfl, _, _, rfl, rfl, m31, _, rfl, _, _, rfl, fun r1 hr1 => ⟨_, rfl, _, _, rfl, rfl, _, _, rfl, fun r2 hr2 => ?_⟩⟩
          refine ⟨_, _, rfl, rfl, m6, p, _, _, rfl, rfl, hp, by rw [List.length_map]; exact smallT (by omega), ?_⟩
          obtain ⟨a1, a2⟩ := add (i := r2 % 1000000) e1 hp
          refine ⟨_, _, rfl, a1, a2, fun m hm' => ?_, by rw [List.length_append, List.length_singleton]; omega⟩
          rcases List.mem_append.mp hm' with z | z
          · exact hm m z
          · rw [List.mem_singleton] at z
            rw [z]
            exact Int.emod_nonneg _ (by decide)
        · obtain ⟨o4, ms, rfl, e1, hp, hm, hml⟩ := hP
          exact ⟨_, _, _, ms, rfl, e1, hp, hm, by omega⟩
    · obtain ⟨o2, o3, o4, ms, rfl, e1, hp, hm, _⟩ := hP
      exact ⟨_, rfl, q _ p ms e1 np hp hm⟩
def spDraw : Sp := fun vs H Q _ => ∃ d nl : Addr, vs = [.ref d] ∧ Dr H d nl ∧ ∀ (r : Int) H', 0 ≤ r → Dr H' d nl → Exb d H H' → (∀ p, H' p = none → H p = none) → Q (.int r) H'
theorem sc_law_draw : FnScope ["_law_draws", "_law_at", "_law_first"] ["_law_draws"] (defScope (top 33)) := ⟨rfl, rfl, rfl, by decide +kernel, rfl, by decide +kernel, by decide +kernel⟩
theorem cal_law_draw (T : Txt K mg C CT CB) (D : Df K mg "_law_draw" 33) (c_law_mixed : Cal P w K mg base 1 "_law_mixed" spMixed) : Cal P w K mg base 2 "_law_draw" spDraw := by
  refine cal_mk D sc_law_draw (fun _ _ _ _ _ _ us hl => match us, hl with | [_], _ => rfl) (fun vs H Q E h => ?_) (fun f cdv A outer s H vs Q E hr h => ?_)
  · obtain ⟨d, nl, rfl, _⟩ := h
    rfl
  · obtain ⟨d, nl, rfl, hD, q⟩ := h
    obtain ⟨ms, i, h1, h2, h3⟩ := id hD
    refine ⟨_, (pss_cons (ps_set (i := 1) sc_law_draw.nd rfl (.inl rfl) (pe_ix (ixLK K) (pv 0) pe_int (fun _ _ => rfl)))
      (pss_cons (ps_asg (pe_op op_add (pv 1) pe_int) (pg_sub (pv 0) pe_int set_list))
      (pss_cons (ps_if (pt_cmpR op_lt (pv 1) (pe_callB (lenK K) (by rfl) T.zlen PySem.boot_len (pa_cons (pe_ix (ixLK K) (pv 0) pe_int (fun _ _ => rfl)) pa_nil)) (nomark _)) (pss_one (ps_ret (pe_ix (ixLK K) (pe_ix (ixLK K) (pv 0) pe_int (fun _ _ => rfl)) (pv 1) (fun _ _ => rfl)))) pss_nil)
      (pss_cons (ps_set (i := 2) sc_law_draw.nd rfl (.inl rfl) (pe_op op_add pe_int (pv 1)))
      (pss_cons (ps_if (pt_cmpR op_gt (pe_callB (lenK K) (by rfl) T.zlen PySem.boot_len (pa_cons (pe_ix (ixLK K) (pv 0) pe_int (fun _ _ => rfl)) pa_nil)) pe_int (nomark _)) (pss_one (ps_set (i := 2) sc_law_draw.nd rfl (.inl rfl) (pe_op op_add (pv 2) (pe_op op_mul pe_int (pe_ix (ixLK K) (pe_ix (ixLK K) (pv 0) pe_int (fun _ _ => rfl)) pe_int (fun _ _ => rfl)))))) pss_nil)
      (pss_one (ps_ret (pe_op op_mod (pe_c c_law_mixed hr (by decide) rfl (pa_cons (pe_c c_law_mixed hr (by decide) rfl (pa_cons (pv 2) (pa_cons (pv 1) pa_nil))) (pa_cons pe_int pa_nil))) pe_int)))))))), ?_⟩
    refine ⟨_, rfl, d, _, _, .int (i : Int), rfl, rfl, in2 h1, atI_nat (j := 1) rfl, ?_⟩
    refine ⟨_, rfl, _, _, rfl, rfl, _, rfl, d, _, _, 1, rfl, rfl, h1, rfl, ?_⟩
    have nd := hD.ne_int h2
    have g1 : upd H d (.lst ([V.ref nl, V.int (i : Int)].set 1 (.int ((i : Int) + 1)))) d = some (.lst [.ref nl, .int ((i + 1 : Nat) : Int)]) := upd_same
    have g2 : upd H d (.lst ([V.ref nl, V.int (i : Int)].set 1 (.int ((i : Int) + 1)))) nl = some (.lst (ms.map V.int)) := by rw [upd_ne nd]; exact h2
    have g3 : Exb d H (upd H d (.lst ([V.ref nl, V.int (i : Int)].set 1 (.int ((i : Int) + 1))))) := .self
    have g4 : ∀ p, upd H d (.lst ([V.ref nl, V.int (i : Int)].set 1 (.int ((i : Int) + 1)))) p = none → H p = none := fun p hp => by
      by_cases z : p = d
      · rw [z, upd_same] at hp
        cases hp
      · rw [upd_ne z] at hp
        exact hp
    generalize upd H d (.lst ([V.ref nl, V.int (i : Int)].set 1 (.int ((i : Int) + 1)))) = H1 at g1 g2 g3 g4 ⊢
    have hD1 : Dr H1 d nl := ⟨ms, i + 1, g1, g2, h3⟩
    have fin : ∀ r : Int, 0 ≤ r → Q (.int r) H1 := fun r hr => q r H1 hr hD1 g3 g4
    refine ⟨_, rfl, _, rfl, d, _, _, .ref nl, rfl, rfl, in2 g1, atI_nat (j := 0) rfl, nl, _, rfl, .inl (in2 g2), _, _, rfl, rfl, _, rfl, ?_⟩
    refine ite2 (fun c1 => ?_) (fun c1 => ?_)
    · have hlt : i < ms.length := by
        have := of_decide_eq_true c1
        rw [List.length_map] at this
        omega
      have hat : (ms.map V.int)[i]? = some (.int ms[i]) := by
        rw [List.getElem?_map, List.getElem?_eq_getElem hlt]
        rfl
      exact ⟨_, rfl, d, _, _, .ref nl, rfl, rfl, in2 g1, atI_nat (j := 0) rfl, _, rfl, nl, _, _, _, rfl, rfl, in2 g2, atI_nat hat, fin _ (h3 _ (List.getElem_mem hlt))⟩
    · refine ⟨_, rfl, _, _, rfl, rfl, ?_⟩
      refine ⟨_, rfl, d, _, _, .ref nl, rfl, rfl, in2 g1, atI_nat (j := 0) rfl, nl, _, rfl, .inl (in2 g2), _, _, rfl, rfl, _, rfl, ?_⟩
      refine ite2 (fun c2 => ?_) (fun c2 => ?_)
      · have hlt : 0 < ms.length := by
          have := of_decide_eq_true c2
          rw [List.length_map] at this
          omega
        have hat : (ms.map V.int)[0]? = some (.int ms[0]) := by
          rw [List.getElem?_map, List.getElem?_eq_getElem hlt]
          rfl
        refine ⟨_, rfl, _, rfl, d, _, _, .ref nl, rfl, rfl, in2 g1, atI_nat (j := 0) rfl, nl, _, _, _, rfl, rfl, in2 g2, atI_nat (j := 0) hat, _, _, rfl, rfl, .inl ⟨by decide, by decide⟩, _, _, rfl, rfl, ?_⟩
        refine ⟨_, rfl, _, rfl, _, _, rfl, fun r1 hr1 => ⟨_, _, rfl, fun r2 hr2 => ⟨_, _, rfl, rfl, m6, fin _ (Int.emod_nonneg _ (by decide))⟩⟩⟩
      · refine ⟨_, rfl, _, rfl, _, _, rfl, fun r1 hr1 => ⟨_, _, rfl, fun r2 hr2 => ⟨_, _, rfl, rfl, m6, fin _ (Int.emod_nonneg _ (by decide))⟩⟩⟩
end
end K67
set_option Elab.async false
set_option linter.all false
set_option maxRecDepth 100000
set_option maxHeartbeats 2000000
namespace K67
open PySem PySem.Spec PyProof.Rows L2
open K67M (Gr comp IsPos Holds Gf Ok Reach srt ins del)
/-! ### expressions of which only little is known -/
structure Dw (d nl : Addr) (H H' : Hp) : Prop where
  ex : Exb d H H'
  dr : Dr H' d nl
theorem Dw.trans {d nl : Addr} {H H1 H2 : Hp} (a : Dw d nl H H1) (b : Dw d nl H1 H2) : Dw d nl H H2 := ⟨a.ex.trans b.ex, b.dr⟩
theorem Dw.none {d nl p : Addr} {H H' : Hp} (a : Dw d nl H H') (h : H' p = none) : H p = none := a.ex.none h a.dr.some
theorem Dw.of {d nl : Addr} {H H' : Hp} (h : Dr H d nl) (e : Ex H H') : Dw d nl H H' := ⟨.of e, h.ex e⟩
section
variable {I : Hp → Prop} {σ : L2.St}
def Any (I : Hp → Prop) (σ : L2.St) (t : TT) : Prop := ∀ H Q, I H → (∀ b H', I H' → Q b H') → t σ H Q
def IntE (I : Hp → Prop) (σ : L2.St) (e : TE) (Pr : Int → Prop) : Prop := ∀ H Q, I H → (∀ i H', I H' → Pr i → Q (V.int i) H') → e σ H Q
theorem Any.and {t u : TT} (a : Any I σ t) (b : Any I σ u) : Any I σ (tAnd t u) := fun H Q hI q => a H _ hI fun c H' h' => by
  cases c with
  | true => exact iteT (b H' Q h' q)
  | false => exact iteF (q false H' h')
theorem Any.or {t u : TT} (a : Any I σ t) (b : Any I σ u) : Any I σ (tOr t u) := fun H Q hI q => a H _ hI fun c H' h' => by
  cases c with
  | true => exact iteT (q true H' h')
  | false => exact iteF (b H' Q h' q)
theorem Any.ifs {t : TT} {a b : TS} {D : Ends} (h : Any I σ t) (ha : ∀ H, I H → a D σ H) (hb : ∀ H, I H → b D σ H) : ∀ H, I H → tIfS t a b D σ H := fun H hI => h H _ hI fun c H' h' => by
  cases c with
  | true => exact iteT (ha H' h')
  | false => exact iteF (hb H' h')
variable {ta tb : TE} {P1 P2 : Int → Prop}
theorem Any.eq (a : IntE I σ ta P1) (b : IntE I σ tb P2) : Any I σ (tTest (tOp rEq ta tb)) := fun H Q hI q => a H _ hI fun i H1 h1 _ => b H1 _ h1 fun j H2 h2 _ => ⟨rfl, _, rfl, q _ H2 h2⟩
theorem Any.neq (a : IntE I σ ta P1) (b : IntE I σ tb P2) : Any I σ (tTest (tOp rNe ta tb)) := fun H Q hI q => a H _ hI fun i H1 h1 _ => b H1 _ h1 fun j H2 h2 _ => ⟨rfl, _, rfl, q _ H2 h2⟩
theorem Any.cmp {f : Int → Int → Bool} (a : IntE I σ ta P1) (b : IntE I σ tb P2) : Any I σ (tTest (tOp (rI0 fun i j => V.bl (f i j)) ta tb)) := fun H Q hI q => a H _ hI fun i H1 h1 _ => b H1 _ h1 fun j H2 h2 _ => ⟨i, j, rfl, rfl, _, rfl, q _ H2 h2⟩
theorem IntE.var {k : Nat} {i : Int} (h : σ[k]? = some (some (.int i))) : IntE I σ (tVar k) (fun j => j = i) := fun H Q hI q => ⟨_, h, q i H hI rfl⟩
theorem IntE.c {i : Int} : IntE I σ (tC (.int i)) (fun j => j = i) := fun H Q hI q => q i H hI rfl
theorem IntE.op {f : Int → Int → Int} (a : IntE I σ ta P1) (b : IntE I σ tb P2) : IntE I σ (tOp (rI0 fun i j => V.int (f i j)) ta tb) (fun _ => True) := fun H Q hI q => a H _ hI fun i H1 h1 _ => b H1 _ h1 fun j H2 h2 _ => ⟨i, j, rfl, rfl, q _ H2 h2 trivial⟩
theorem IntE.opC {Cn : Int → Int → Prop} {f : Int → Int → Int} (a : IntE I σ ta P1) (b : IntE I σ tb P2) (h : ∀ i j, P1 i → P2 j → Cn i j) : IntE I σ (tOp (rI Cn fun i j => V.int (f i j)) ta tb) (fun _ => True) := fun H Q hI q => a H _ hI fun i H1 h1 p1 => b H1 _ h1 fun j H2 h2 p2 => ⟨i, j, rfl, rfl, h i j p1 p2, q _ H2 h2 trivial⟩
theorem IntE.mod {Cn : Int → Int → Prop} (a : IntE I σ ta P1) (b : IntE I σ tb P2) (h : ∀ i j, P1 i → P2 j → Cn i j ∧ 0 < j) : IntE I σ (tOp (rI Cn fun i j => V.int (i % j)) ta tb) (fun r => 0 ≤ r ∧ ∀ j, P2 j → (∀ k, P2 k → k = j) → r < j) := fun H Q hI q => a H _ hI fun i H1 h1 p1 => b H1 _ h1 fun j H2 h2 p2 =>
  ⟨i, j, rfl, rfl, (h i j p1 p2).1, q _ H2 h2 ⟨Int.emod_nonneg _ (by have := (h i j p1 p2).2; omega), fun k hk hu => by
    rw [← hu j p2]
    exact Int.emod_lt_of_pos _ (h i j p1 p2).2⟩⟩
theorem IntE.draw {d nl : Addr} {k : Nat} (h1 : ∀ H, I H → Dr H d nl) (h2 : ∀ H H', I H → Dr H' d nl → Exb d H H' → I H') (hσ : σ[k]? = some (some (.ref d))) : IntE I σ (tCall spDraw [] E0 (tCons (tVar k) tNil)) (fun r => 0 ≤ r) := fun H Q hI q =>
  ⟨_, hσ, d, nl, rfl, h1 H hI, fun r H' hr hd he _ => q r H' (h2 H H' hI hd he) hr⟩
theorem IntE.ix {K : PySem.W.Frag} {k l v : Nat} {a : Addr} {ms : List Int} (h1 : ∀ H, I H → H a = some (.lst (ms.map V.int))) (ha : σ[k]? = some (some (.ref a))) (hv : σ[l]? = some (some (nI v))) (hl : v < ms.length) : IntE I σ (tOp (rIxL K) (tVar k) (tVar l)) (fun _ => True) := fun H Q hI q =>
  ⟨_, ha, _, hv, a, _, _, .int ms[v], rfl, rfl, in2 (h1 H hI), atI_nat (by rw [List.getElem?_map, List.getElem?_eq_getElem hl]; rfl), q _ H hI trivial⟩
end
theorem lc_yes {σ : L2.St} {H : Hp} {A B : Hp → Prop} (h : A H) : tYes σ H (fun b H3 => if b = true then A H3 else B H3) := by
  unfold tYes
  exact iteT h
theorem app_pair {K : PySem.W.Frag} {D : Ends} {σ : L2.St} {H : Hp} {p : Addr} {xs : List V} {i j l u v : Nat} (h6 : σ[i]? = some (some (.ref p))) (h7 : σ[j]? = some (some (nI u))) (h4 : σ[l]? = some (some (nI v))) (hp : H p = some (.lst xs)) (hl : xs.length < sizeLine)
    (fin : ∀ t, H t = none → D.nx σ (upd (upd H t (.tup [nI u, nI v])) p (.lst (xs ++ [.ref t])))) : tDrop (tBM K "list" rAppend (tVar i) (tCons (tTup (tCons (tVar j) (tCons (tVar l) tNil))) tNil)) D σ H :=
  ⟨_, h6, .inl ⟨rfl, _, in2 hp⟩, _, h7, _, h4, small (by show 2 ≤ 10000000; decide), fun t nt => ⟨p, xs, _, rfl, rfl, ex_new nt _ _ hp, hl, fin t nt⟩⟩
section
variable {P : Program} {w : World} {K : PySem.W.Frag} {mg : Str → Option Value} {base : Heap} {C CT CB : Addr}
def PairsOk (n : Nat) (es : List (Nat × Nat)) : Prop := es.Nodup ∧ ∀ e ∈ es, e.1 < e.2 ∧ e.2 < n
def spPairs : Sp := fun vs H Q _ => ∃ (d nl : Addr) (n : Nat), vs = [.ref d, nI n] ∧ Dr H d nl ∧ n ≤ 40 ∧ ∀ H' p es, Dw d nl H H' → H p = none → LOf PairV H' p es → PairsOk n es → es.length ≤ 2000 → Q (.ref p) H'
theorem sc_law_pairs : FnScope ["_law_draws", "_law_n", "_law_pick", "_law_dense", "_law_v", "_law_part", "_law_pairs_here", "_law_u"] ["_law_draws", "_law_n"] (defScope (top 36)) := ⟨rfl, rfl, rfl, by decide +kernel, rfl, by decide +kernel, by decide +kernel⟩
theorem cal_law_pairs (T : Txt K mg C CT CB) (D : Df K mg "_law_pairs" 36) (c_law_draw : Cal P w K mg base 2 "_law_draw" spDraw) : Cal P w K mg base 3 "_law_pairs" spPairs := by
  refine cal_mk D sc_law_pairs (fun _ _ _ _ _ _ us hl => match us, hl with | [_, _], _ => rfl) (fun vs H Q E h => ?_) (fun f cdv A outer s H vs Q E hr h => ?_)
  · obtain ⟨d, nl, n, rfl, _⟩ := h
    rfl
  · obtain ⟨d, nl, n, rfl, hD, hn, q⟩ := h
    refine ⟨_, (pss_cons (ps_set (i := 2) sc_law_pairs.nd rfl (.inl rfl) (pe_op op_mod (pe_c c_law_draw hr (by decide) rfl (pa_cons (pv 0) pa_nil)) pe_int))
      (pss_cons (ps_set (i := 3) sc_law_pairs.nd rfl (.inl rfl) (pe_op op_add pe_int (pe_op op_mod (pe_c c_law_draw hr (by decide) rfl (pa_cons (pv 0) pa_nil)) pe_int)))
      (pss_cons (ps_setLc (i := 5) (own := [("_law_v", 4)]) rfl sc_law_pairs.nd rfl rfl (sw_true rfl rfl rfl (by decide +kernel)) (pi_range1 rfl T.zrange (pa_cons (pv 1) pa_nil)) (blkOk_by (N := ["_law_draws", "_law_n", "_law_pick", "_law_dense", "_law_v", "_law_part", "_law_pairs_here", "_law_u"]) (sc := defScope (top 36)) (by decide +kernel)) (fun _ _ _ _ _ => (pg_name (i := 4) sc_law_pairs.nd rfl (by first | exact .inl rfl | exact .inr rfl))) (fun _ _ _ _ _ => pts_nil) (fun _ _ _ _ _ => (pe_op op_mod (pe_c c_law_draw hr (by decide) rfl (pa_cons (pv 0) pa_nil)) pe_int)))
      (pss_cons (ps_set (i := 6) sc_law_pairs.nd rfl (.inl rfl) (pe_lst pa_nil))
      (pss_cons (ps_for PassesOwn.never rfl (pi_range1 rfl T.zrange (pa_cons (pv 1) pa_nil)) (pg_name (i := 4) sc_law_pairs.nd rfl (.inl rfl)) (pss_one (ps_for PassesOwn.never rfl (pi_range1 rfl T.zrange (pa_cons (pv 4) pa_nil)) (pg_name (i := 7) sc_law_pairs.nd rfl (.inl rfl)) (pss_one (ps_if (PW.pt (pw_and (pt_cmpR op_eq (pv 2) pe_int (nomark _)) (pw_and1 (PW.pt (pw_or (pt_cmpR op_eq (pe_op op_add (pv 7) pe_int) (pv 4) (nomark _)) (pw_or (PW.pt (pw_and (pt_cmpR op_eq (pv 7) pe_int (nomark _)) (pw_and1 (pt_cmpR op_eq (pv 4) (pe_op op_sub (pv 1) pe_int) (nomark _))))) (pw_or1 (pt_cmpR op_eq (pe_op op_mod (pe_c c_law_draw hr (by decide) rfl (pa_cons (pv 0) pa_nil)) pe_int) pe_int (nomark _))))))))) (pss_one (ps_expr (pe_bm PySem.F.plainAttrs_list PySem.F.slot_list_append PySem.F.type_list_append mt_append (pv 6) (pa_cons (pe_tup (pa_cons (pv 7) (pa_cons (pv 4) pa_nil))) pa_nil)))) (pss_one (ps_if (PW.pt (pw_and (pt_cmpR op_eq (pv 2) pe_int (nomark _)) (pw_and1 (pt_cmpR op_eq (pv 7) (pe_op op_mod (pe_op op_add (pe_ix (ixLK K) (pv 5) (pv 4) (fun _ _ => rfl)) (pe_op op_fdiv (pv 4) pe_int)) (pv 4)) (nomark _))))) (pss_one (ps_expr (pe_bm PySem.F.plainAttrs_list PySem.F.slot_list_append PySem.F.type_list_append mt_append (pv 6) (pa_cons (pe_tup (pa_cons (pv 7) (pa_cons (pv 4) pa_nil))) pa_nil)))) (pss_one (ps_if (PW.pt (pw_and (pt_cmpR op_eq (pv 2) pe_int (nomark _)) (pw_and1 (pt_cmpR op_eq (pe_ix (ixLK K) (pv 5) (pv 7) (fun _ _ => rfl)) (pe_ix (ixLK K) (pv 5) (pv 4) (fun _ _ => rfl)) (nomark _))))) (pss_one (ps_expr (pe_bm PySem.F.plainAttrs_list PySem.F.slot_list_append PySem.F.type_list_append mt_append (pv 6) (pa_cons (pe_tup (pa_cons (pv 7) (pa_cons (pv 4) pa_nil))) pa_nil)))) (pss_one (ps_if (PW.pt (pw_and (pt_cmpR op_eq (pv 2) pe_int (nomark _)) (pw_and (pt_cmpR op_ne (pe_ix (ixLK K) (pv 5) (pv 7) (fun _ _ => rfl)) (pe_ix (ixLK K) (pv 5) (pv 4) (fun _ _ => rfl)) (nomark _)) (pw_and1 (pt_cmpR op_lt (pe_op op_mod (pe_c c_law_draw hr (by decide) rfl (pa_cons (pv 0) pa_nil)) pe_int) (pv 3) (nomark _)))))) (pss_one (ps_expr (pe_bm PySem.F.plainAttrs_list PySem.F.slot_list_append PySem.F.type_list_append mt_append (pv 6) (pa_cons (pe_tup (pa_cons (pv 7) (pa_cons (pv 4) pa_nil))) pa_nil)))) (pss_one (ps_if (PW.pt (pw_and (pt_cmpR op_eq (pv 2) pe_int (nomark _)) (pw_and1 (PW.pt (pw_or (pt_cmpR op_eq (pv 4) (pe_op op_add (pv 7) pe_int) (nomark _)) (pw_or1 (PW.pt (pw_and (pt_cmpR op_eq (pv 4) (pe_op op_add (pv 7) pe_int) (nomark _)) (pw_and1 (pt_cmpR op_gt (pe_op op_mod (pv 4) pe_int) pe_int (nomark _))))))))))) (pss_one (ps_expr (pe_bm PySem.F.plainAttrs_list PySem.F.slot_list_append PySem.F.type_list_append mt_append (pv 6) (pa_cons (pe_tup (pa_cons (pv 7) (pa_cons (pv 4) pa_nil))) pa_nil)))) (pss_one (ps_if (PW.pt (pw_and (pt_cmpR op_gt (pv 2) pe_int (nomark _)) (pw_and1 (pt_cmpR op_lt (pe_op op_mod (pe_c c_law_draw hr (by decide) rfl (pa_cons (pv 0) pa_nil)) pe_int) (pv 3) (nomark _))))) (pss_one (ps_expr (pe_bm PySem.F.plainAttrs_list PySem.F.slot_list_append PySem.F.type_list_append mt_append (pv 6) (pa_cons (pe_tup (pa_cons (pv 7) (pa_cons (pv 4) pa_nil))) pa_nil)))) pss_nil)))))))))))))))
      (pss_one (ps_ret (pv 6)))))))), ?_⟩
    refine ⟨_, rfl, d, nl, rfl, hD, fun r1 H1 hr1 hD1 hx1 _ => ⟨_, _, rfl, rfl, by show (0 : Int) < 7; decide, ?_⟩⟩
    refine ⟨_, rfl, d, nl, rfl, hD1, fun r2 H2 hr2 hD2 hx2 _ => ⟨_, _, rfl, rfl, by show (0 : Int) < 9; decide, _, _, rfl, rfl, ?_⟩⟩
    have w2 : Dw d nl H H2 := ⟨hx1.trans hx2, hD2⟩
    refine ⟨_, rfl, _, rfl, by omega, by omega, fun PT nPT => ?_⟩
    rw [show ((n : Nat) : Int).toNat = n from Int.toNat_natCast _]
    have PTd : PT ≠ d := fun z => hD2.some (z ▸ nPT)
    have PTn : PT ≠ nl := fun z => hD2.some2 (z ▸ nPT)
    refine lc_range (fun i H' => Dw d nl H H' ∧ ∃ ms : List Int, H' PT = some (.lst (ms.map V.int)) ∧ ms.length = i) ⟨w2.trans (.of hD2 (ex_new nPT)), [], upd_same, rfl⟩ (fun i H' hi p => ⟨rfl, ?_⟩) fun H' p => ?_
    · obtain ⟨w3, ms, hPT, hml⟩ := p
      refine lc_yes ⟨_, rfl, d, nl, rfl, w3.dr, fun r3 H3 hr3 hD3 hx3 _ => ⟨_, _, rfl, rfl, by show (0 : Int) < 3; decide, _, hx3 _ _ PTd hPT, by rw [List.length_map]; exact smallT (by omega), ?_⟩⟩
      have w4 : Dw d nl H H3 := w3.trans ⟨hx3, hD3⟩
      refine ⟨⟨w4.ex.new (w2.none nPT), ?_⟩, ms ++ [r3 % 3], by rw [upd_same, List.map_append]; rfl, by rw [List.length_append, hml]; rfl⟩
      exact hD3.upd PTd PTn
    · obtain ⟨w3, ms, hPT, hml⟩ := p
      refine ⟨Nat.zero_le _, fun p np => ?_⟩
      have pPT : PT ≠ p := fun z => by
        rw [z, np] at hPT
        cases hPT
      have pd : p ≠ d := fun z => w3.dr.some (z ▸ np)
      have pn : p ≠ nl := fun z => w3.dr.some2 (z ▸ np)
      have npH := w3.none np
      have nPTH := w2.none nPT
      refine ⟨_, rfl, _, rfl, by omega, by omega, ?_⟩
      rw [show ((n : Nat) : Int).toNat = n from Int.toNat_natCast _]
      refine for_range (fun v σ' H' => ∃ (o4 o7 : Option V) (xs : List V) (es : List (Nat × Nat)), σ' = [some (.ref d), some (nI n), some (.int (r1 % 7)), some (.int (1 + r2 % 9)), o4, some (.ref PT), some (.ref p), o7] ∧ Dw d nl H H' ∧ H' PT = some (.lst (ms.map V.int)) ∧ H' p = some (.lst xs) ∧
          Paired (PairV H') xs es ∧ PairsOk n es ∧ (∀ e ∈ es, e.2 < v) ∧ es.length ≤ 40 * v)
        ⟨_, none, [], [], rfl, w3.trans (.of w3.dr (ex_new np)), by rw [upd_ne pPT]; exact hPT, upd_same, .nil, ⟨List.nodup_nil, fun e h => absurd h (by simp)⟩, fun e h => absurd h (by simp), Nat.zero_le _⟩ (fun v σ' H' hv hP => ?_) (fun σ' H' hP => ?_)
      · obtain ⟨o4, o7, xs, es, rfl, w4, hPT4, hp4, hxs, hok, hlt, hes⟩ := hP
        refine ⟨_, rfl, _, rfl, by omega, by omega, ?_⟩
        rw [show ((0 : Int) + (v : Int)).toNat = v by omega, show (V.int (0 + (v : Int))) = nI v by unfold nI; rw [Int.zero_add]]
        refine for_range (fun u σ' H' => ∃ (o7 : Option V) (xs : List V) (es : List (Nat × Nat)), σ' = [some (.ref d), some (nI n), some (.int (r1 % 7)), some (.int (1 + r2 % 9)), some (nI v), some (.ref PT), some (.ref p), o7] ∧ Dw d nl H H' ∧ H' PT = some (.lst (ms.map V.int)) ∧ H' p = some (.lst xs) ∧
            Paired (PairV H') xs es ∧ PairsOk n es ∧ (∀ e ∈ es, e.2 < v ∨ (e.2 = v ∧ e.1 < u)) ∧ es.length ≤ 40 * v + u)
          ⟨_, xs, es, rfl, w4, hPT4, hp4, hxs, hok, fun e he => .inl (hlt e he), hes⟩ (fun u σ' H' hu hP => ?_) (fun σ' H' hP => ?_)
        · obtain ⟨o7, xs, es, rfl, w5, hPT5, hp5, hxs5, hok5, hlt5, hes5⟩ := hP
          rw [show (V.int (0 + (u : Int))) = nI u by unfold nI; rw [Int.zero_add]]
          have hxl : xs.length = es.length := Paired.length hxs5
          let I : Hp → Prop := fun H1 => Dw d nl H' H1 ∧ H1 PT = some (.lst (ms.map V.int)) ∧ H1 p = some (.lst xs)
          have iD : ∀ H1, I H1 → Dr H1 d nl := fun H1 h => h.1.dr
          have iS : ∀ H1 H2, I H1 → Dr H2 d nl → Exb d H1 H2 → I H2 := fun H1 H2 h hd he => ⟨h.1.trans ⟨he, hd⟩, he _ _ PTd h.2.1, he _ _ pd h.2.2⟩
          have iP : ∀ H1, I H1 → H1 PT = some (.lst (ms.map V.int)) := fun H1 h => h.2.1
          have w0 : Dw d nl H' H' := ⟨.refl, w5.dr⟩
          have hI0 : I H' := ⟨w0, hPT5, hp5⟩
          have skip : ∀ H1, I H1 → ∃ (o7 : Option V) (xs : List V) (es : List (Nat × Nat)), [some (V.ref d), some (nI n), some (.int (r1 % 7)), some (.int (1 + r2 % 9)), some (nI v), some (.ref PT), some (.ref p), some (nI u)] = [some (.ref d), some (nI n), some (.int (r1 % 7)), some (.int (1 + r2 % 9)), some (nI v), some (.ref PT), some (.ref p), o7] ∧ Dw d nl H H1 ∧ H1 PT = some (.lst (ms.map V.int)) ∧ H1 p = some (.lst xs) ∧
              Paired (PairV H1) xs es ∧ PairsOk n es ∧ (∀ e ∈ es, e.2 < v ∨ (e.2 = v ∧ e.1 < u + 1)) ∧ es.length ≤ 40 * v + (u + 1) := fun H1 h =>
            ⟨_, xs, es, rfl, w5.trans h.1, h.2.1, h.2.2, L2.Paired.mapP hxs5 fun _ _ z => z.tm (w5.dr.tm h.1.ex), hok5, fun e he => (hlt5 e he).imp id fun z => ⟨z.1, by omega⟩, by omega⟩
          have app : ∀ H1, I H1 → ∀ t, H1 t = none → ∃ (o7 : Option V) (ys : List V) (fs : List (Nat × Nat)), [some (V.ref d), some (nI n), some (.int (r1 % 7)), some (.int (1 + r2 % 9)), some (nI v), some (.ref PT), some (.ref p), some (nI u)] = [some (.ref d), some (nI n), some (.int (r1 % 7)), some (.int (1 + r2 % 9)), some (nI v), some (.ref PT), some (.ref p), o7] ∧ Dw d nl H (upd (upd H1 t (.tup [nI u, nI v])) p (.lst (xs ++ [.ref t]))) ∧
              (upd (upd H1 t (.tup [nI u, nI v])) p (.lst (xs ++ [.ref t]))) PT = some (.lst (ms.map V.int)) ∧ (upd (upd H1 t (.tup [nI u, nI v])) p (.lst (xs ++ [.ref t]))) p = some (.lst ys) ∧
              Paired (PairV (upd (upd H1 t (.tup [nI u, nI v])) p (.lst (xs ++ [.ref t])))) ys fs ∧ PairsOk n fs ∧ (∀ e ∈ fs, e.2 < v ∨ (e.2 = v ∧ e.1 < u + 1)) ∧ fs.length ≤ 40 * v + (u + 1) := fun H1 h t nt => by
            have tp : t ≠ p := fun z => by
              rw [z, h.2.2] at nt
              cases nt
            have e1 := ex_new (o := .tup [nI u, nI v]) nt
            have hp1 := e1 _ _ h.2.2
            have tm : Tm H' (upd (upd H1 t (.tup [nI u, nI v])) p (.lst (xs ++ [.ref t]))) := (w5.dr.tm h.1.ex).trans ((Tm.of e1).trans (Tm.updL hp1))
            refine ⟨_, xs ++ [.ref t], es ++ [(u, v)], rfl, ⟨((w5.trans h.1).trans (.of h.1.dr e1)).ex.new npH, ((h.1.dr.ex e1).upd pd pn)⟩, by rw [upd_ne pPT]; exact e1 _ _ h.2.1, upd_same, ?_, ⟨?_, fun e he => ?_⟩, fun e he => ?_, by rw [List.length_append]; exact Nat.succ_le_succ hes5⟩
            · exact paired_app (L2.Paired.mapP hxs5 fun _ _ z => z.tm tm) (paired_one ⟨t, rfl, by rw [upd_ne tp, upd_same]⟩)
            · rw [List.nodup_append]
              refine ⟨hok5.1, by simp, fun a ha b hb e => ?_⟩
              rw [List.mem_singleton] at hb
              subst hb
              subst e
              rcases hlt5 _ ha with z | z
              · exact Nat.lt_irrefl _ z
              · exact Nat.lt_irrefl _ z.2
            · rcases List.mem_append.mp he with z | z
              · exact hok5.2 e z
              · rw [List.mem_singleton] at z
                subst z
                exact ⟨hu, hv⟩
            · rcases List.mem_append.mp he with z | z
              · exact (hlt5 e z).imp id fun z => ⟨z.1, by omega⟩
              · rw [List.mem_singleton] at z
                subst z
                exact .inr ⟨rfl, Nat.lt_succ_self _⟩
          have hsz : xs.length < sizeLine := smallT (by omega)
          have dr : ∀ (c : Int), 0 < c → IntE I [some (V.ref d), some (nI n), some (.int (r1 % 7)), some (.int (1 + r2 % 9)), some (nI v), some (.ref PT), some (.ref p), some (nI u)] (tOp (rI (fun _ j => 0 < j) fun i j => V.int (i % j)) (tCall spDraw [] E0 (tCons (tVar 0) tNil)) (tC (.int c))) (fun r => 0 ≤ r ∧ ∀ j, j = c → (∀ k, k = c → k = j) → r < j) := fun c hc =>
            IntE.mod (IntE.draw iD iS rfl) IntE.c fun i j _ e => ⟨by rw [e]; exact hc, by rw [e]; exact hc⟩
          exact Any.ifs (Any.and (Any.eq (IntE.var rfl) IntE.c) (Any.or (Any.eq (IntE.op (IntE.var rfl) IntE.c) (IntE.var rfl)) (Any.or (Any.and (Any.eq (IntE.var rfl) IntE.c) (Any.eq (IntE.var rfl) (IntE.op (IntE.var rfl) IntE.c))) (Any.eq (dr 12 (by decide)) IntE.c))))
            (fun H1 h => app_pair rfl rfl rfl h.2.2 hsz (app H1 h))
            (Any.ifs (Any.and (Any.eq (IntE.var rfl) IntE.c) (Any.eq (IntE.var rfl) (IntE.mod (IntE.op (IntE.ix iP rfl rfl (by omega)) (IntE.opC (IntE.var rfl) IntE.c fun i j _ e => by rw [e]; exact ⟨by decide, by decide⟩)) (IntE.var rfl) fun i j _ e => ⟨by rw [e]; omega, by rw [e]; omega⟩)))
              (fun H1 h => app_pair rfl rfl rfl h.2.2 hsz (app H1 h))
              (Any.ifs (Any.and (Any.eq (IntE.var rfl) IntE.c) (Any.eq (IntE.ix iP rfl rfl (by omega)) (IntE.ix iP rfl rfl (by omega))))
                (fun H1 h => app_pair rfl rfl rfl h.2.2 hsz (app H1 h))
                (Any.ifs (Any.and (Any.eq (IntE.var rfl) IntE.c) (Any.and (Any.neq (IntE.ix iP rfl rfl (by omega)) (IntE.ix iP rfl rfl (by omega))) (Any.cmp (dr 10 (by decide)) (IntE.var rfl))))
                  (fun H1 h => app_pair rfl rfl rfl h.2.2 hsz (app H1 h))
                  (Any.ifs (Any.and (Any.eq (IntE.var rfl) IntE.c) (Any.or (Any.eq (IntE.var rfl) (IntE.op (IntE.var rfl) IntE.c)) (Any.and (Any.eq (IntE.var rfl) (IntE.op (IntE.var rfl) IntE.c)) (Any.cmp (IntE.mod (IntE.var rfl) IntE.c fun i j _ e => ⟨by rw [e]; decide, by rw [e]; decide⟩) IntE.c))))
                    (fun H1 h => app_pair rfl rfl rfl h.2.2 hsz (app H1 h))
                    (Any.ifs (Any.and (Any.cmp (IntE.var rfl) IntE.c) (Any.cmp (dr 10 (by decide)) (IntE.var rfl)))
                      (fun H1 h => app_pair rfl rfl rfl h.2.2 hsz (app H1 h)) skip))))) H' hI0
        · obtain ⟨o7, xs, es, rfl, w5, hPT5, hp5, hxs5, hok5, hlt5, hes5⟩ := hP
          exact ⟨_, _, xs, es, rfl, w5, hPT5, hp5, hxs5, hok5, fun e he => by have := hlt5 e he; omega, by omega⟩
      · obtain ⟨o4, o7, xs, es, rfl, w4, hPT4, hp4, hxs, hok, hlt, hes⟩ := hP
        exact ⟨_, rfl, q H' p es w4 npH ⟨xs, hp4, hxs⟩ hok (by omega)⟩
end
end K67
set_option Elab.async false
set_option linter.all false
set_option maxRecDepth 100000
set_option maxHeartbeats 2000000
namespace K67
open PySem PySem.Spec PyProof.Rows L2
open K67M (Gr comp IsPos Holds Gf Ok Reach srt ins del)
theorem cut_to (xs : List V) (k : Nat) : cutV xs none (some (k : Int)) = xs.take k := by
  unfold cutV
  rw [HT.sIx_none, HT.sIx_nat, List.drop_zero, Nat.sub_zero]
  rcases Nat.le_total k xs.length with h | h
  · rw [Nat.min_eq_left h]
  · rw [Nat.min_eq_right h, List.take_length, List.take_of_length_le h]
theorem cut_from (xs : List V) (k : Nat) : cutV xs (some (k : Int)) none = xs.drop k := by
  unfold cutV
  rw [HT.sIx_none, HT.sIx_nat]
  rcases Nat.le_total k xs.length with h | h
  · rw [Nat.min_eq_left h, List.take_of_length_le]
    rw [List.length_drop]
    exact Nat.le_refl _
  · rw [Nat.min_eq_right h, Nat.sub_self, List.take_zero, List.drop_of_length_le h]
theorem nL_take (l : List Nat) (k : Nat) : (nL l).take k = nL (l.take k) := by
  unfold nL
  rw [List.map_take]
theorem nL_drop (l : List Nat) (k : Nat) : (nL l).drop k = nL (l.drop k) := by
  unfold nL
  rw [List.map_drop]
theorem rgV_range (n : Nat) : rgV 0 (n : Int) = nL (List.range n) := by
  unfold rgV nL
  rw [show ((n : Int) - 0).toNat = n by omega]
  refine List.map_congr_left fun i _ => ?_
  unfold nI
  rw [Int.zero_add]
def encE (e : Nat × Nat) : PyData := .tuple [.int (e.1 : Int), .int (e.2 : Int)]
theorem encE_lt (e f : Nat × Nat) : PySem.W.dataLt (encE e) (encE f) = true ↔ eLt e f := by
  unfold encE eLt PySem.W.dataLt
  simp only [PySem.W.keyToks, PySem.W.keyToksAll, List.cons_append, List.nil_append, PyProof.Rows.lexLt, PyProof.Rows.itemOrd, PyProof.Rows.itemLt]
  simp only [Bool.or_eq_true, Bool.and_eq_true, Bool.not_eq_true', decide_eq_true_eq, decide_eq_false_iff_not, Int.lt_irrefl, Bool.false_eq_true, false_or, not_false_eq_true, true_and, and_false, or_false]
  omega
section
variable {P : Program} {w : World} {K : PySem.W.Frag} {mg : Str → Option Value} {base : Heap} {C CT CB : Addr}
def spOrder : Sp := fun vs H Q _ => ∃ (d nl : Addr) (n : Nat), vs = [.ref d, nI n] ∧ Dr H d nl ∧ n ≤ 40 ∧ ∀ H' p l, Dw d nl H H' → H p = none → H' p = some (.lst (nL l)) → l.Perm (List.range n) → Q (.ref p) H'
theorem sc_law_order : FnScope ["_law_draws", "_law_n", "_law_rest", "_law_order_here", "_law_k", "_law_at"] ["_law_draws", "_law_n"] (defScope (top 37)) := ⟨rfl, rfl, rfl, by decide +kernel, rfl, by decide +kernel, by decide +kernel⟩
theorem cal_law_order (T : Txt K mg C CT CB) (D : Df K mg "_law_order" 37) (c_law_draw : Cal P w K mg base 2 "_law_draw" spDraw) : Cal P w K mg base 3 "_law_order" spOrder := by
  refine cal_mk D sc_law_order (fun _ _ _ _ _ _ us hl => match us, hl with | [_, _], _ => rfl) (fun vs H Q E h => ?_) (fun f cdv A outer s H vs Q E hr h => ?_)
  · obtain ⟨d, nl, n, rfl, _⟩ := h
    rfl
  · obtain ⟨d, nl, n, rfl, hD, hn, q⟩ := h
    refine ⟨_, (pss_cons (ps_set (i := 2) sc_law_order.nd rfl (.inl rfl) (pe_listRg rfl rfl T.zlist (prg_1 rfl T.zrange (pv 1))))
      (pss_cons (ps_set (i := 3) sc_law_order.nd rfl (.inl rfl) (pe_lst pa_nil))
      (pss_cons (ps_for PassesOwn.never rfl (pi_range1 rfl T.zrange (pa_cons (pv 1) pa_nil)) (pg_name (i := 4) sc_law_order.nd rfl (.inl rfl)) (pss_cons (ps_set (i := 5) sc_law_order.nd rfl (.inl rfl) (pe_op op_mod (pe_c c_law_draw hr (by decide) rfl (pa_cons (pv 0) pa_nil)) (pe_callB (lenK K) (by rfl) T.zlen PySem.boot_len (pa_cons (pv 2) pa_nil))))
      (pss_cons (ps_expr (pe_bm PySem.F.plainAttrs_list PySem.F.slot_list_append PySem.F.type_list_append mt_append (pv 3) (pa_cons (pe_ix (ixLK K) (pv 2) (pv 5) (fun _ _ => rfl)) pa_nil)))
      (pss_one (ps_set (i := 2) sc_law_order.nd rfl (.inl rfl) (pe_op op_cat (pe_slice sl_list (pv 2) po_none (po_some (pv 5))) (pe_slice sl_list (pv 2) (po_some (pe_op op_add (pv 5) pe_int)) po_none)))))))
      (pss_one (ps_ret (pv 3)))))), ?_⟩
    refine ⟨_, rfl, _, rfl, RgOk.of_le (by omega) (by omega) (by omega) (by omega), fun R nR => ?_⟩
    rw [rgV_range]
    refine ⟨Nat.zero_le _, fun O nO => ?_⟩
    have eR := ex_new (o := .lst (nL (List.range n))) nR
    have eO := ex_new (o := .lst []) nO
    have nOH := ex_none eR nO
    have RO : R ≠ O := fun z => by
      rw [← z, upd_same] at nO
      cases nO
    have Od : O ≠ d := fun z => hD.some (z ▸ nOH)
    have On : O ≠ nl := fun z => hD.some2 (z ▸ nOH)
    refine ⟨_, rfl, _, rfl, by omega, by omega, ?_⟩
    rw [show ((n : Nat) : Int).toNat = n from Int.toNat_natCast _]
    refine for_range (fun j σ' H' => ∃ (o4 o5 : Option V) (R : Addr) (r o : List Nat), σ' = [some (.ref d), some (nI n), some (.ref R), some (.ref O), o4, o5] ∧ Dw d nl H H' ∧ H' R = some (.lst (nL r)) ∧ H' O = some (.lst (nL o)) ∧ R ≠ O ∧ (o ++ r).Perm (List.range n) ∧ o.length = j)
      ⟨none, none, R, _, [], rfl, .of hD (eR.trans eO), eO _ _ upd_same, upd_same, RO, .refl _, rfl⟩ (fun j σ' H' hj hP => ?_) (fun σ' H' hP => ?_)
    · obtain ⟨o4, o5, R, r, o, rfl, w1, hR, hO, RO, hpm, hol⟩ := hP
      have hlen : o.length + r.length = n := by
        have := hpm.length_eq
        rw [List.length_append, List.length_range] at this
        exact this
      have Rd := w1.dr.ne_nl hR
      refine ⟨_, rfl, d, nl, rfl, w1.dr, fun r1 H1 hr1 hD1 hx1 _ => ⟨_, rfl, R, _, rfl, .inl (in2 (hx1 _ _ Rd hR)), _, _, rfl, rfl, by rw [nL_len]; omega, ?_⟩⟩
      have hR1 := hx1 _ _ Rd hR
      have hO1 := hx1 _ _ Od hO
      have w2 : Dw d nl H H1 := w1.trans ⟨hx1, hD1⟩
      dsimp only
      rw [nL_len]
      have k1 := Int.emod_nonneg r1 (b := (r.length : Int)) (by omega)
      have k2 := Int.emod_lt_of_pos r1 (b := (r.length : Int)) (by omega)
      obtain ⟨k0, hk0⟩ := Int.eq_ofNat_of_zero_le k1
      rw [hk0] at k2 ⊢
      have hkl : k0 < r.length := by omega
      refine ⟨_, rfl, .inl ⟨rfl, _, in2 hO1⟩, _, rfl, _, rfl, R, _, _, nI r[k0], rfl, rfl, in2 hR1, atI_nat (nL_at (List.getElem?_eq_getElem hkl)), O, _, _, rfl, rfl, hO1, by rw [nL_len]; exact smallT (by omega), ?_⟩
      have w3 : Dw d nl H (upd H1 O (.lst (nL o ++ [nI r[k0]]))) := ⟨w2.ex.new nOH, w2.dr.upd Od On⟩
      have hR3 : upd H1 O (.lst (nL o ++ [nI r[k0]])) R = some (.lst (nL r)) := by rw [upd_ne RO]; exact hR1
      have hO3 : upd H1 O (.lst (nL o ++ [nI r[k0]])) O = some (.lst (nL (o ++ [r[k0]]))) := by rw [upd_same, nL_app]; rfl
      generalize upd H1 O (.lst (nL o ++ [nI r[k0]])) = H3 at w3 hR3 hO3 ⊢
      refine ⟨_, rfl, _, rfl, _, rfl, R, _, rfl, in2 hR3, fun p1 np1 => ?_⟩
      rw [cut_to, nL_take]
      have e1 := ex_new (o := .lst (nL (r.take k0))) np1
      refine ⟨_, rfl, _, rfl, _, _, rfl, rfl, _, rfl, R, _, rfl, in2 (e1 _ _ hR3), fun p2 np2 => ?_⟩
      rw [show ((k0 : Int) + 1) = ((k0 + 1 : Nat) : Int) by omega, cut_from, nL_drop]
      have e2 := ex_new (o := .lst (nL (r.drop (k0 + 1)))) np2
      refine ⟨p1, p2, _, _, rfl, rfl, e2 _ _ upd_same, upd_same, ?_, fun p3 np3 => ?_⟩
      · rw [nL_len, nL_len, List.length_take, List.length_drop]
        exact small (by omega)
      · have e3 := (e1.trans e2).trans (ex_new (o := .lst (nL (r.take k0) ++ nL (r.drop (k0 + 1)))) np3)
        have p3O : p3 ≠ O := fun z => by
          rw [z, (e1.trans e2) _ _ hO3] at np3
          cases np3
        refine ⟨_, _, p3, r.take k0 ++ r.drop (k0 + 1), o ++ [r[k0]], rfl, w3.trans (.of w3.dr e3), by rw [upd_same, nL_app], e3 _ _ hO3, p3O, ?_, by rw [List.length_append, hol]; rfl⟩
        refine .trans ?_ hpm
        rw [List.append_assoc]
        refine List.Perm.append_left o ?_
        have hd : r.take k0 ++ r[k0] :: r.drop (k0 + 1) = r := by rw [List.getElem_cons_drop, List.take_append_drop]
        have : (r.take k0 ++ r[k0] :: r.drop (k0 + 1)).Perm (r[k0] :: (r.take k0 ++ r.drop (k0 + 1))) := List.perm_middle
        rw [hd] at this
        exact this.symm
    · obtain ⟨o4, o5, R, r, o, rfl, w1, hR, hO, RO, hpm, hol⟩ := hP
      have hr0 : r = [] := by
        have := hpm.length_eq
        rw [List.length_append, List.length_range] at this
        exact List.eq_nil_of_length_eq_zero (by omega)
      subst hr0
      rw [List.append_nil] at hpm
      exact ⟨_, rfl, q H' O o w1 nOH hO hpm⟩
end
end K67
set_option Elab.async false
set_option linter.all false
set_option maxRecDepth 100000
set_option maxHeartbeats 2000000
namespace K67
open PySem PySem.Spec PyProof.Rows L2
open K67M (Gr comp IsPos Holds Gf Ok Reach srt ins del)
theorem dpE {K : PySem.W.Frag} {H : Hp} {v : V} {e : Nat × Nat} (h : PairV H v e) : Dp K H v (encE e) := by
  obtain ⟨q, rfl, e1⟩ := h
  exact .tup (in3 e1) (.cons (.int _) (.cons (.int _) .nil))
theorem alikeE (e f : Nat × Nat) : PySem.W.alike (encE e) (encE f) = true := by
  unfold encE
  simp only [PySem.W.alike, PySem.W.alikeAll, Bool.and_self]
theorem depthE (e : Nat × Nat) : (encE e).depth ≤ 40 := by
  unfold encE
  simp only [PyData.depth, PyData.depthAll]
  omega
abbrev edgeLe : Nat × Nat → Nat × Nat → Bool := PySem.W.dataLe false encE
theorem sortE_read {X : Cx} {H : Hp} {a : Addr} {xs : List V} {ps : List (Nat × Nat)} {Q : VK} (hu : X.A.units + 64 < cLine) (h : H a = some (.lst xs)) (hp : Paired (PairV H) xs ps)
    (q : ∀ ys p, Paired (PairV H) ys (ps.mergeSort edgeLe) → H p = none → Q (.ref p) (upd H p (.lst ys))) : (X.A.units + 64 < cLine) ∧ rSortD encE X.K [.ref a] H Q := by
  obtain ⟨zs, rfl, rfl, hz⟩ := paired_zip hp
  refine ⟨hu, a, zs, rfl, in2 h, fun z hz' => dpE (hz z hz'), ?_, .inl ?_, fun z _ => depthE z.2, fun p np => q _ p ?_ np⟩
  · intro d hd d' hd'
    obtain ⟨z, _, rfl⟩ := List.mem_map.mp hd
    obtain ⟨z', _, rfl⟩ := List.mem_map.mp hd'
    exact alikeE _ _
  · intro d hd
    obtain ⟨z, _, rfl⟩ := List.mem_map.mp hd
    exact ⟨_, _, rfl⟩
  · have e : (zs.map (·.2)).mergeSort edgeLe = (zs.mergeSort (PySem.W.dataLe false fun z => encE z.2)).map (·.2) := (PySem.W.sort_maps (fun z : V × (Nat × Nat) => z.2) (r := PySem.W.dataLe false fun z : V × (Nat × Nat) => encE z.2) (s := edgeLe) fun _ _ _ _ => rfl).symm
    rw [e]
    exact paired_map _ _ fun z hz' => hz z ((List.mergeSort_perm _ _).mem_iff.mp hz')
theorem edgeLe_def (e f : Nat × Nat) : edgeLe e f = !PySem.W.dataLt (encE f) (encE e) := rfl
/-- pairs, each once, in order -/
theorem sorted_edges {n : Nat} {fs : List (Nat × Nat)} (nd : fs.Nodup) (h : ∀ e ∈ fs, e.1 < e.2 ∧ e.2 < n) : EdgesOk n (fs.mergeSort edgeLe) := by
  have pm := List.mergeSort_perm fs edgeLe
  have tot : PySem.W.TotalLe edgeLe := PySem.W.sortLe_total _ _ _
  refine ⟨?_, fun e he => h e (pm.mem_iff.mp he)⟩
  refine ((PySem.W.sort_pairwise tot fs).and (List.nodup_iff_pairwise_ne.mp (pm.nodup_iff.mpr nd))).imp fun {e f} q => ?_
  obtain ⟨h1, h2⟩ := q
  rw [edgeLe_def, Bool.not_eq_true'] at h1
  have h3 : ¬ eLt f e := fun z => by
    rw [(encE_lt f e).mpr z] at h1
    cases h1
  unfold eLt at h3 ⊢
  have : e.1 ≠ f.1 ∨ e.2 ≠ f.2 := by
    by_cases z : e.1 = f.1
    · exact .inr fun y => h2 (Prod.ext z y)
    · exact .inl z
  omega
/-- a pair of places, told by what stands there -/
def mm (l : List Nat) (e : Nat × Nat) : Nat × Nat := (min (l.getD e.1 0) (l.getD e.2 0), max (l.getD e.1 0) (l.getD e.2 0))
theorem mm_ok {n : Nat} {l : List Nat} {es : List (Nat × Nat)} (hp : l.Perm (List.range n)) (h : es.Nodup) (h2 : ∀ e ∈ es, e.1 < n ∧ e.2 < n ∧ e.1 ≠ e.2) (h3 : ∀ e ∈ es, ∀ f ∈ es, ¬ (e.1 = f.2 ∧ e.2 = f.1)) : (es.map (mm l)).Nodup ∧ ∀ e ∈ es.map (mm l), e.1 < e.2 ∧ e.2 < n := by
  have hl : l.length = n := by
    have := hp.length_eq
    rw [List.length_range] at this
    exact this
  have nd : l.Nodup := hp.nodup_iff.mpr List.nodup_range
  have hg : ∀ i, i < n → l.getD i 0 < n := fun i hi => by
    rw [List.getD_eq_getElem?_getD, List.getElem?_eq_getElem (by omega), Option.getD_some]
    exact List.mem_range.mp (hp.mem_iff.mp (List.getElem_mem _))
  have inj : ∀ i j, i < n → j < n → l.getD i 0 = l.getD j 0 → i = j := fun i j hi hj e => by
    rw [List.getD_eq_getElem?_getD, List.getElem?_eq_getElem (by omega : i < l.length), Option.getD_some, List.getD_eq_getElem?_getD, List.getElem?_eq_getElem (by omega : j < l.length), Option.getD_some] at e
    rcases Nat.lt_trichotomy i j with z | z | z
    · exact absurd e (List.pairwise_iff_getElem.mp (List.nodup_iff_pairwise_ne.mp nd) i j _ _ z)
    · exact z
    · exact absurd e.symm (List.pairwise_iff_getElem.mp (List.nodup_iff_pairwise_ne.mp nd) j i _ _ z)
  constructor
  · rw [List.nodup_iff_pairwise_ne, List.pairwise_map]
    refine List.Pairwise.imp_of_mem ?_ (List.nodup_iff_pairwise_ne.mp h)
    intro e f he hf ne q
    obtain ⟨a1, a2, a3⟩ := h2 e he
    obtain ⟨b1, b2, b3⟩ := h2 f hf
    have q1 : min (l.getD e.1 0) (l.getD e.2 0) = min (l.getD f.1 0) (l.getD f.2 0) := congrArg Prod.fst q
    have q2 : max (l.getD e.1 0) (l.getD e.2 0) = max (l.getD f.1 0) (l.getD f.2 0) := congrArg Prod.snd q
    have : (l.getD e.1 0 = l.getD f.1 0 ∧ l.getD e.2 0 = l.getD f.2 0) ∨ (l.getD e.1 0 = l.getD f.2 0 ∧ l.getD e.2 0 = l.getD f.1 0) := by omega
    rcases this with ⟨z1, z2⟩ | ⟨z1, z2⟩
    · exact ne (Prod.ext (inj _ _ a1 b1 z1) (inj _ _ a2 b2 z2))
    · exact h3 e he f hf ⟨inj _ _ a1 b2 z1, inj _ _ a2 b1 z2⟩
  · intro e he
    obtain ⟨f, hf, rfl⟩ := List.mem_map.mp he
    obtain ⟨b1, b2, b3⟩ := h2 f hf
    have g1 := hg _ b1
    have g2 := hg _ b2
    have : l.getD f.1 0 ≠ l.getD f.2 0 := fun z => b3 (inj _ _ b1 b2 z)
    show min _ _ < max _ _ ∧ max _ _ < n
    omega
theorem getD_at {l : List Nat} {i n : Nat} (h : l.Perm (List.range n)) (hi : i < n) : (nL l)[i]? = some (nI (l.getD i 0)) := by
  have hl : l.length = n := by
    have := h.length_eq
    rw [List.length_range] at this
    exact this
  refine nL_at ?_
  rw [List.getD_eq_getElem?_getD, List.getElem?_eq_getElem (by omega), Option.getD_some]
theorem minI (a b : Nat) : V.int (if (b : Int) < (a : Int) then (b : Int) else (a : Int)) = nI (min a b) := by
  unfold nI
  split <;> congr 1 <;> omega
theorem maxI (a b : Nat) : V.int (if (b : Int) > (a : Int) then (b : Int) else (a : Int)) = nI (max a b) := by
  unfold nI
  split <;> congr 1 <;> omega
section
variable {P : Program} {w : World} {K : PySem.W.Frag} {mg : Str → Option Value} {base : Heap} {C CT CB : Addr}
def spLEdges : Sp := fun vs H Q _ => ∃ (d nl : Addr) (n : Nat), vs = [.ref d, nI n] ∧ Dr H d nl ∧ n ≤ 40 ∧ ∀ H' p es, Dw d nl H H' → H p = none → LOf PairV H' p es → EdgesOk n es → Q (.ref p) H'
theorem sc_law_edges : FnScope ["_law_draws", "_law_n", "_law_order_here", "_law_pairs_here", "_law_u", "_law_v"] ["_law_draws", "_law_n"] (defScope (top 38)) := ⟨rfl, rfl, rfl, by decide +kernel, rfl, by decide +kernel, by decide +kernel⟩
theorem cal_law_edges (T : Txt K mg C CT CB) (D : Df K mg "_law_edges" 38) (c_law_order : Cal P w K mg base 3 "_law_order" spOrder) (c_law_pairs : Cal P w K mg base 3 "_law_pairs" spPairs) : Cal P w K mg base 4 "_law_edges" spLEdges := by
  refine cal_mk D sc_law_edges (fun _ _ _ _ _ _ us hl => match us, hl with | [_, _], _ => rfl) (fun vs H Q E h => ?_) (fun f cdv A outer s H vs Q E hr h => ?_)
  · obtain ⟨d, nl, n, rfl, _⟩ := h
    rfl
  · obtain ⟨d, nl, n, rfl, hD, hn, q⟩ := h
    refine ⟨_, (pss_cons (ps_set (i := 2) sc_law_edges.nd rfl (.inr rfl) (pe_c c_law_order hr (by decide) rfl (pa_cons (pv 0) (pa_cons (pv 1) pa_nil))))
      (pss_cons (ps_setLc (i := 3) (own := [("_law_u", 4), ("_law_v", 5)]) rfl sc_law_edges.nd rfl rfl (sw_true rfl rfl rfl (by decide +kernel)) (pilK K (pe_c c_law_pairs hr (by decide) rfl (pa_cons (pv 0) (pa_cons (pv 1) pa_nil)))) (blkOk_by (N := ["_law_draws", "_law_n", "_law_order_here", "_law_pairs_here", "_law_u", "_law_v"]) (sc := defScope (top 38)) (by decide +kernel)) (fun _ _ _ _ _ => (gtupK K (n := 2) rfl (pgs_cons (pg_name (i := 4) sc_law_edges.nd rfl (by first | exact .inl rfl | exact .inr rfl)) (pgs_cons (pg_name (i := 5) sc_law_edges.nd rfl (by first | exact .inl rfl | exact .inr rfl)) pgs_nil)))) (fun _ _ _ _ _ => pts_nil) (fun _ _ _ _ _ => (pe_tup (pa_cons (pe_callB (call_min2 rfl) (by rfl) T.zmin (by decide +kernel) (pa_cons (pe_ix (ixLK K) (pv 2) (pv 4) (fun _ _ => rfl)) (pa_cons (pe_ix (ixLK K) (pv 2) (pv 5) (fun _ _ => rfl)) pa_nil))) (pa_cons (pe_callB (call_max2 rfl) (by rfl) T.zmax (by decide +kernel) (pa_cons (pe_ix (ixLK K) (pv 2) (pv 4) (fun _ _ => rfl)) (pa_cons (pe_ix (ixLK K) (pv 2) (pv 5) (fun _ _ => rfl)) pa_nil))) pa_nil)))))
      (pss_one (ps_ret (pe_callB (cr_sortD encE) (by rfl) T.zsorted (by decide +kernel) (pa_cons (pv 3) pa_nil)))))), ?_⟩
    refine ⟨_, rfl, _, rfl, d, nl, n, rfl, hD, hn, fun H1 O l w1 nO hO hpm => ?_⟩
    refine ⟨_, rfl, _, rfl, d, nl, n, rfl, w1.dr, hn, fun H2 p es w2 np hLp hok hel => ?_⟩
    obtain ⟨xs, hp, hxs⟩ := hLp
    have hO2 := w2.ex _ _ (w1.dr.ne_nl hO) hO
    have hxl : xs.length = es.length := Paired.length hxs
    refine ⟨p, rfl, ⟨_, in2 hp⟩, fun D nD => ?_⟩
    refine lc_list (xs := xs) (LcInv (fun _ => true) (mm l) PairV es H2 D) ⟨ex_new nD, [], upd_same, .nil, Nat.le_refl _⟩ (fun i H _ p => Evl.ex_l p.1 (in2 hp)) (fun i x H' hi P' => ?_) fun H' P' => ?_
    · obtain ⟨e, he, hxe⟩ := paired_get hxs hi
      obtain ⟨e3, ys, hD3, hys, hyl⟩ := P'
      obtain ⟨t, rfl, ht⟩ := hxe.tm (Tm.of e3)
      have hee := hok.2 e (List.mem_of_getElem? he)
      have i1 := (List.getElem?_eq_some_iff.mp he).1
      have g1 := getD_at hpm (show e.1 < n by omega)
      have g2 := getD_at hpm hee.2
      have hO3 := e3 _ _ hO2
      refine ⟨t, _, rfl, in3 ht, rfl, _, _, rfl, _, _, rfl, rfl, rfl, lc_yes ?_⟩
      refine ⟨_, rfl, _, rfl, O, _, _, _, rfl, rfl, in2 hO3, atI_nat g1, _, rfl, _, rfl, O, _, _, _, rfl, rfl, in2 hO3, atI_nat g2, _, _, rfl, ?_⟩
      refine ⟨_, rfl, _, rfl, O, _, _, _, rfl, rfl, in2 hO3, atI_nat g1, _, rfl, _, rfl, O, _, _, _, rfl, rfl, in2 hO3, atI_nat g2, _, _, rfl, ?_⟩
      rw [minI, maxI]
      refine ⟨small (by show 2 ≤ 10000000; decide), fun t2 nt2 => ?_⟩
      have e4 := ex_new (o := .tup [nI (min (l.getD e.1 0) (l.getD e.2 0)), nI (max (l.getD e.1 0) (l.getD e.2 0))]) nt2
      refine ⟨ys, e4 _ _ hD3, smallT (by omega), ex_mut (e3.trans e4) nD, ys ++ [.ref t2], upd_same, ?_, by rw [List.length_append]; exact Nat.succ_le_succ hyl⟩
      have tk : es.take (i + 1) = es.take i ++ [e] := by
        rw [List.take_add_one, he]
        rfl
      have t2D : t2 ≠ D := fun z => by
        rw [z, hD3] at nt2
        cases nt2
      rw [tk, filter_true, List.map_append]
      rw [filter_true] at hys
      exact paired_app (L2.Paired.mapP hys fun _ _ z => z.tm ((Tm.of e4).trans (Tm.updL (e4 _ _ hD3)))) (paired_one ⟨t2, rfl, by rw [upd_ne t2D, upd_same]; rfl⟩)
    · obtain ⟨e3, ys, hD3, hys, hyl⟩ := P'
      rw [hxl, List.take_length, filter_true] at hys
      refine ⟨_, rfl, ?_⟩
      refine sortE_read hr.units hD3 hys fun zs p4 hzs np4 => ?_
      have w3 : Dw d nl H H' := (w1.trans w2).trans (.of w2.dr e3)
      have hmm := mm_ok hpm hok.1 (fun e he => by have := hok.2 e he; omega) (fun e he f hf => by have := hok.2 e he; have := hok.2 f hf; omega)
      exact q _ p4 _ (w3.trans (.of w3.dr (ex_new np4))) (w3.none np4) ⟨zs, upd_same, L2.Paired.mapP hzs fun _ _ z => z.tm (Tm.of (ex_new np4))⟩ (sorted_edges hmm.1 hmm.2)
def spNear : Sp := fun vs H Q _ => ∃ (a : Addr) (n : Nat) (es : List (Nat × Nat)), vs = [nI n, .ref a] ∧ n ≤ 40 ∧ LOf PairV H a es ∧ EdgesOk n es ∧ ∀ H' p, Ex H H' → H p = none → LOf LstN H' p (rowsOf n es) → Q (.ref p) H'
theorem sc_law_near : FnScope ["_law_n", "_law_edges_here", "_law_near_here", "_law_edge", "_law_v", "_law_row"] ["_law_n", "_law_edges_here"] (defScope (top 39)) := ⟨rfl, rfl, rfl, by decide +kernel, rfl, by decide +kernel, by decide +kernel⟩
theorem cal_law_near (T : Txt K mg C CT CB) (D : Df K mg "_law_near" 39) : Cal P w K mg base 1 "_law_near" spNear := by
  refine cal_mk D sc_law_near (fun _ _ _ _ _ _ us hl => match us, hl with | [_, _], _ => rfl) (fun vs H Q E h => ?_) (fun f cdv A outer s H vs Q E hr h => ?_)
  · obtain ⟨a, n, es, rfl, _⟩ := h
    rfl
  · obtain ⟨a, n, es, rfl, hn, ⟨xs, ha, hxs⟩, hes, q⟩ := h
    have hfew := edges_few hes hn
    have hxl : xs.length = es.length := Paired.length hxs
    refine ⟨_, (pss_cons (ps_setLc (i := 2) (own := [("_law_v", 4)]) rfl sc_law_near.nd rfl rfl (sw_true rfl rfl rfl (by decide +kernel)) (pi_range1 rfl T.zrange (pa_cons (pv 0) pa_nil)) (blkOk_by (N := ["_law_n", "_law_edges_here", "_law_near_here", "_law_edge", "_law_v", "_law_row"]) (sc := defScope (top 39)) (by decide +kernel)) (fun _ _ _ _ _ => (pg_name (i := 4) sc_law_near.nd rfl (by first | exact .inl rfl | exact .inr rfl))) (fun _ _ _ _ _ => pts_nil) (fun _ _ _ _ _ => (pe_lst pa_nil)))
      (pss_cons (ps_for PassesOwn.never rfl (pilK K (pv 1)) (pg_name (i := 3) sc_law_near.nd rfl (.inl rfl)) (pss_cons (ps_expr (pe_bm PySem.F.plainAttrs_list PySem.F.slot_list_append PySem.F.type_list_append mt_append (pe_ix (ixLK K) (pv 2) (pe_ix (ixTK K) (pv 3) pe_int (fun _ _ => rfl)) (fun _ _ => rfl)) (pa_cons (pe_ix (ixTK K) (pv 3) pe_int (fun _ _ => rfl)) pa_nil)))
      (pss_one (ps_expr (pe_bm PySem.F.plainAttrs_list PySem.F.slot_list_append PySem.F.type_list_append mt_append (pe_ix (ixLK K) (pv 2) (pe_ix (ixTK K) (pv 3) pe_int (fun _ _ => rfl)) (fun _ _ => rfl)) (pa_cons (pe_ix (ixTK K) (pv 3) pe_int (fun _ _ => rfl)) pa_nil))))))
      (pss_one (ps_ret (pe_lc (own := [("_law_row", 5)]) rfl sc_law_near.nd (pilK K (pv 2)) (blkOk_by (N := ["_law_n", "_law_edges_here", "_law_near_here", "_law_edge", "_law_v", "_law_row"]) (sc := defScope (top 39)) (by decide +kernel)) (fun _ _ _ _ _ => (pg_name (i := 5) sc_law_near.nd rfl (by first | exact .inl rfl | exact .inr rfl))) (fun _ _ _ _ _ => pts_nil) (fun _ _ _ _ _ => (pe_callB (srtK K) (by rfl) T.zsorted (by decide +kernel) (pa_cons (pv 5) pa_nil)))))))), ?_⟩
    refine ⟨_, rfl, _, rfl, by omega, by omega, fun D1 nD1 => ?_⟩
    rw [show ((n : Nat) : Int).toNat = n from Int.toNat_natCast _]
    refine lc_llR (g := fun _ => []) nD1 (by omega) (fun _ => rfl) (fun i hi => fun H5 e5 Q' q' => ⟨Nat.zero_le _, fun p np => q' p _ (ex_new np) np upd_same⟩) fun H5 ys e5 hD1 hys ynd => ?_
    have hra := RowsAt.start hys ynd
    refine ⟨_, rfl, a, rfl, ⟨_, in2 (e5 _ _ ha)⟩, ?_⟩
    refine for_list (xs := xs) (fun j σ' H' => ∃ o3 : Option V, σ' = [some (nI n), some (.ref a), some (.ref D1), o3, none, none] ∧ Ex H H' ∧ H' D1 = some (.lst ys) ∧ RowsAt (fun p => H p = none ∧ p ≠ D1) H' ys (nbr (es.take j)) n)
      ⟨none, rfl, e5, hD1, hra.fn fun v => rfl⟩ (fun j σ' H' _ hP => ?_) (fun j x' σ' H' hx' hP => ?_) (fun σ' H' hP => ?_)
    · obtain ⟨_, _, e7, _⟩ := hP
      exact in2 (e7 _ _ ha)
    · obtain ⟨o3, rfl, e7, hD7, hra7⟩ := hP
      obtain ⟨e, he, hxe⟩ := paired_get hxs hx'
      obtain ⟨t, rfl, ht⟩ := hxe
      have hee := hes.2 e (List.mem_of_getElem? he)
      have h1n : e.1 < n := by omega
      obtain ⟨p1, hp1, np1, hq1⟩ := hra7.at_ e.1 h1n
      have hnb1 := nbr_len (v := e.1) (es := es.take j)
      have hnb2 := nbr_len (v := e.2) (es := es.take j)
      rw [List.length_take] at hnb1 hnb2
      refine ⟨_, rfl, _, rfl, t, _, _, nI e.1, rfl, rfl, in3 (e7 _ _ ht), atI_nat (j := 0) rfl, D1, _, _, .ref p1, rfl, rfl, in2 hD7, atI_nat hp1, .inl ⟨rfl, _, in2 hq1⟩, _, rfl, t, _, _, nI e.2, rfl, rfl, in3 (e7 _ _ ht), atI_nat (j := 1) rfl, p1, _, _, rfl, rfl, hq1, by rw [nL_len]; exact smallT (by omega), ?_⟩
      have hra8 := hra7.app (w := e.2) h1n hp1
      have hD8 : upd H' p1 (.lst (nL (nbr (es.take j) e.1) ++ [nI e.2])) D1 = some (.lst ys) := by rw [upd_ne (Ne.symm np1.2)]; exact hD7
      have e8 : Ex H (upd H' p1 (.lst (nL (nbr (es.take j) e.1) ++ [nI e.2]))) := ex_mut e7 np1.1
      generalize upd H' p1 (.lst (nL (nbr (es.take j) e.1) ++ [nI e.2])) = H8 at hra8 hD8 e8 ⊢
      obtain ⟨p2, hp2, np2, hq2⟩ := hra8.at_ e.2 hee.2
      have hle : (nL (nbr (es.take j) e.2 ++ if e.2 = e.1 then [e.2] else [])).length < sizeLine := by
        rw [nL_len, if_neg (by omega), List.append_nil]
        exact smallT (by omega)
      refine ⟨_, rfl, _, rfl, t, _, _, nI e.2, rfl, rfl, in3 (e8 _ _ ht), atI_nat (j := 1) rfl, D1, _, _, .ref p2, rfl, rfl, in2 hD8, atI_nat hp2, .inl ⟨rfl, _, in2 hq2⟩, _, rfl, t, _, _, nI e.1, rfl, rfl, in3 (e8 _ _ ht), atI_nat (j := 0) rfl, p2, _, _, rfl, rfl, hq2, hle, ?_⟩
      have hra9 := hra8.app (w := e.1) hee.2 hp2
      refine ⟨_, rfl, ex_mut e8 np2.1, by rw [upd_ne (Ne.symm np2.2)]; exact hD8, hra9.fn fun v => ?_⟩
      rw [List.take_add_one, he]
      show _ = nbr (es.take j ++ [e]) v
      rw [nbr_app, List.append_assoc]
    · obtain ⟨o3, rfl, e7, hD7, hra7⟩ := hP
      rw [hxl, List.take_length] at hra7
      refine ⟨_, rfl, D1, rfl, ⟨_, in2 hD7⟩, fun D2 nD2 => ?_⟩
      refine lc_ll (R := LstN H') (g := srt) (in2 hD7) hra7.paired nD2 (by rw [hra7.len]; omega) (fun _ => rfl) (fun y r hy hr' hyr => fun H8 e8 Q' q' => ?_) fun H8 zs e8 hD8 hzs _ => ?_
      · obtain ⟨p, rfl, hp⟩ := hyr
        refine ⟨_, rfl, p, _, rfl, in2 (by rw [e8 _ _ hp, nL_int]), fun ms p2 hpm hsd np2 => q' p2 _ (ex_new np2) np2 ?_⟩
        rw [upd_same, sorted_nat hpm hsd]
      · refine q _ D2 (e7.trans e8) (ex_none e7 nD2) ⟨zs, hD8, ?_⟩
        rw [List.map_map] at hzs
        refine L2.Paired.mapP hzs fun v r z => ?_
        obtain ⟨p, h1, h2, h3, h4⟩ := z
        exact ⟨p, h1, h4⟩
end
end K67
set_option Elab.async false
set_option linter.all false
set_option maxRecDepth 100000
set_option maxHeartbeats 2000000
namespace K67
open PySem PySem.Spec PyProof.Rows L2
open K67M (Gr comp IsPos Holds Gf Ok Reach srt ins del)
theorem Bf.many {G : Gr} {X d l r : List Nat} {s a v : Nat} (b : Bf G X s l a) (hv : l[a]? = some v) (nd : r.Nodup) (hr : ∀ w, w ∈ r ↔ G v w = true) (h1 : ∀ w, G v w = true → w ∈ d → w ∈ X) (h2 : ∀ w ∈ X, w ∈ d) :
    Bf G X s (l ++ r.filter fun w => !decide (w ∈ d) && !decide (w ∈ l)) (a + 1) := by
  have ha : a < l.length := (List.getElem?_eq_some_iff.mp hv).1
  have mf : ∀ w, w ∈ (r.filter fun w => !decide (w ∈ d) && !decide (w ∈ l)) ↔ w ∈ r ∧ w ∉ d ∧ w ∉ l := fun w => by
    rw [List.mem_filter]
    simp only [Bool.and_eq_true, Bool.not_eq_true', decide_eq_false_iff_not]
  refine ⟨?_, List.mem_append_left _ b.mem, fun w hw => ?_, fun i x hi hx w gw hwX => ?_, by rw [List.length_append]; omega⟩
  · rw [List.nodup_append]
    refine ⟨b.nd, nd.filter _, fun x hx y hy e => ?_⟩
    subst e
    exact ((mf x).mp hy).2.2 hx
  · rcases List.mem_append.mp hw with hw | hw
    · exact b.rch w hw
    · obtain ⟨z1, z2, z3⟩ := (mf w).mp hw
      exact .step (b.rch v (List.mem_of_getElem? hv)) ((hr w).mp z1) fun z => z2 (h2 w z)
  · rw [List.getElem?_append_left (by omega)] at hx
    by_cases e : i = a
    · subst e
      rw [hv] at hx
      cases hx
      by_cases z : w ∈ l
      · exact List.mem_append_left _ z
      · exact List.mem_append_right _ ((mf w).mpr ⟨(hr w).mpr gw, fun q => hwX (h1 w gw q), z⟩)
    · exact List.mem_append_left _ (b.cl i x (by omega) hx w gw hwX)
section
variable {P : Program} {w : World} {K : PySem.W.Frag} {mg : Str → Option Value} {base : Heap} {C CT CB : Addr}
def RowsNd (rows : List (List Nat)) : Prop := ∀ r ∈ rows, r.Nodup
def spComps : Sp := fun vs H Q _ => ∃ (a c : Addr) (rows : List (List Nat)) (X : List Nat), vs = [.ref a, .ref c] ∧ LOf LstN H a rows ∧ Ok rows.length (gr rows) ∧ RowsNd rows ∧ rows.length ≤ 40 ∧ H c = some (.lst (nL X)) ∧ X.length ≤ 1000 ∧
  ∀ H' p, Ex H H' → H p = none → LOf TupN H' p (parts (gr rows) rows.length X) → Q (.ref p) H'
theorem sc_law_components : FnScope ["_law_near_here", "_law_searched", "_law_found", "_law_seen", "_law_v", "_law_part", "_law_at", "_law_u"] ["_law_near_here", "_law_searched"] (defScope (top 40)) := ⟨rfl, rfl, rfl, by decide +kernel, rfl, by decide +kernel, by decide +kernel⟩
theorem cal_law_components (T : Txt K mg C CT CB) (D : Df K mg "_law_components" 40) : Cal P w K mg base 1 "_law_components" spComps := by
  refine cal_mk D sc_law_components (fun _ _ _ _ _ _ us hl => match us, hl with | [_, _], _ => rfl) (fun vs H Q E h => ?_) (fun f cdv A outer s H vs Q E hr h => ?_)
  · obtain ⟨a, c, rows, X, rfl, _⟩ := h
    rfl
  · obtain ⟨a, c, rows, X, rfl, ⟨rv, ha, hrv⟩, ok, hnd, hn, hc, hXl, q⟩ := h
    have hrl : rv.length = rows.length := Paired.length hrv
    refine ⟨_, (pss_cons (ps_set (i := 2) sc_law_components.nd rfl (.inl rfl) (pe_lst pa_nil))
      (pss_cons (ps_set (i := 3) sc_law_components.nd rfl (.inr rfl) (pe_callTy (lstK K) (by rfl) T.zlist (by decide +kernel) (pa_cons (pv 1) pa_nil)))
      (pss_cons (ps_for PassesOwn.never rfl (pi_range1 rfl T.zrange (pa_cons (pe_callB (lenK K) (by rfl) T.zlen PySem.boot_len (pa_cons (pv 0) pa_nil)) pa_nil)) (pg_name (i := 4) sc_law_components.nd rfl (.inl rfl)) (pss_one (ps_if (pt_cmpR (ninK K) (pv 4) (pv 3) (by rfl)) (pss_cons (ps_set (i := 5) sc_law_components.nd rfl (.inr rfl) (pe_lst (pa_cons (pv 4) pa_nil)))
      (pss_cons (ps_for PassesOwn.never rfl (pi_range1 rfl T.zrange (pa_cons (pe_callB (lenK K) (by rfl) T.zlen PySem.boot_len (pa_cons (pv 0) pa_nil)) pa_nil)) (pg_name (i := 6) sc_law_components.nd rfl (.inl rfl)) (pss_one (ps_if (pt_cmpR op_lt (pv 6) (pe_callB (lenK K) (by rfl) T.zlen PySem.boot_len (pa_cons (pv 5) pa_nil)) (nomark _)) (pss_one (ps_set (i := 5) sc_law_components.nd rfl (.inr rfl) (pe_op op_cat (pv 5) (pe_lc (own := [("_law_u", 7)]) rfl sc_law_components.nd (pilK K (pe_ix (ixLK K) (pv 0) (pe_ix (ixLK K) (pv 5) (pv 6) (fun _ _ => rfl)) (fun _ _ => rfl))) (blkOk_by (N := ["_law_near_here", "_law_searched", "_law_found", "_law_seen", "_law_v", "_law_part", "_law_at", "_law_u"]) (sc := defScope (top 40)) (by decide +kernel)) (fun _ _ _ _ _ => (pg_name (i := 7) sc_law_components.nd rfl (by first | exact .inl rfl | exact .inr rfl))) (fun _ _ _ _ _ => (pts_one (PW.pt (pw_and (pt_cmpR (ninK K) (pv 7) (pv 3) (by rfl)) (pw_and1 (pt_cmpR (ninK K) (pv 7) (pv 5) (by rfl))))))) (fun _ _ _ _ _ => (pv 7)))))) pss_nil)))
      (pss_cons (ps_set (i := 3) sc_law_components.nd rfl (.inr rfl) (pe_op op_cat (pv 3) (pv 5)))
      (pss_one (ps_expr (pe_bm PySem.F.plainAttrs_list PySem.F.slot_list_append PySem.F.type_list_append mt_append (pv 2) (pa_cons (pe_callTy (tupK K) (by rfl) T.ztuple (by decide +kernel) (pa_cons (pe_callB (srtK K) (by rfl) T.zsorted (by decide +kernel) (pa_cons (pv 5) pa_nil)) pa_nil)) pa_nil))))))) pss_nil)))
      (pss_one (ps_ret (pv 2)))))), ?_⟩
    refine ⟨Nat.zero_le _, fun F nF => ?_⟩
    have e0 := ex_new (o := .lst []) nF
    refine ⟨_, rfl, c, _, rfl, .inl (in2 (e0 _ _ hc)), fun S nS => ?_⟩
    have SF : S ≠ F := fun z => by
      rw [z, upd_same] at nS
      cases nS
    have e1 := e0.trans (ex_new (o := .lst (nL X)) nS)
    refine ⟨_, rfl, a, _, rfl, .inl (in2 (e1 _ _ ha)), _, rfl, by omega, by omega, ?_⟩
    rw [show ((rv.length : Nat) : Int).toNat = rows.length by omega]
    refine for_range (fun i σ' H' => ∃ (o4 o5 o6 : Option V) (S : Addr) (d : List Nat) (xs : List V), σ' = [some (.ref a), some (.ref c), some (.ref F), some (.ref S), o4, o5, o6, none] ∧ Ex H H' ∧ H' S = some (.lst (nL d)) ∧ S ≠ F ∧ d.length ≤ X.length + i * rows.length ∧ Dn (gr rows) X i d ∧
        H' F = some (.lst xs) ∧ Paired (TupN H') xs (partsTo (gr rows) rows.length X i))
      ⟨none, none, none, S, X, [], rfl, e1, upd_same, SF, by omega, fun v => ⟨.inl, fun z => z.elim id fun ⟨u, h1, _⟩ => absurd h1 (Nat.not_lt_zero _)⟩, by rw [upd_ne SF.symm, upd_same], .nil⟩ (fun i σ' H' hi hP => ?_) (fun σ' H' hP => ?_)
    · obtain ⟨o4, o5, o6, S, d, xs, rfl, e1, hS, SF, hdl, hD, hF, hp⟩ := hP
      have hil : i * rows.length + rows.length ≤ 1600 := by
        have : (i + 1) * rows.length ≤ 40 * 40 := Nat.mul_le_mul (by omega) hn
        rw [Nat.succ_mul] at this
        exact this
      refine ⟨_, rfl, _, rfl, S, _, rfl, .inl (in2 hS), rfl, nL_flat _, _, rfl, ?_⟩
      rw [show (V.int (0 + (i : Int))) = nI i by unfold nI; rw [Int.zero_add], inV_nL]
      refine ite2 (fun c1 => ?_) (fun c1 => ?_)
      · have hid : i ∉ d := by simpa using c1
        have fs := hD.fst.mpr hid
        refine ⟨_, rfl, small (by show 1 ≤ 10000000; decide), fun P0 nP0 => ?_⟩
        have e2 := ex_new (o := .lst [nI i]) nP0
        refine ⟨_, rfl, a, _, rfl, .inl (in2 ((e1.trans e2) _ _ ha)), _, rfl, by omega, by omega, ?_⟩
        rw [show ((rv.length : Nat) : Int).toNat = rows.length by omega]
        refine for_range (fun j σ' H2 => ∃ (o6 : Option V) (Pt : Addr) (l : List Nat), σ' = [some (.ref a), some (.ref c), some (.ref F), some (.ref S), some (nI i), some (.ref Pt), o6, none] ∧ Ex H' H2 ∧ H2 Pt = some (.lst (nL l)) ∧ Bf (gr rows) X i l (min j l.length))
          ⟨_, P0, [i], rfl, e2, upd_same, .start⟩ (fun j σ' H2 hj hP => ?_) (fun σ' H2 hP => ?_)
        · obtain ⟨o6, Pt, l, rfl, e2, hPt, b⟩ := hP
          have hll := b.len ok hi
          refine ⟨_, rfl, _, rfl, Pt, _, rfl, .inl (in2 hPt), _, _, rfl, rfl, _, rfl, ?_⟩
          refine ite2 (fun c2 => ?_) (fun c2 => ?_)
          · have hjl : j < l.length := by
              have := of_decide_eq_true c2
              rw [nL_len] at this
              omega
            have hv : l[j]? = some l[j] := List.getElem?_eq_getElem hjl
            have hvn : l[j] < rows.length := (b.rch _ (List.getElem_mem hjl)).lt ok hi
            have hrow : rows[l[j]]? = some rows[l[j]] := List.getElem?_eq_getElem hvn
            obtain ⟨rr, hrr, ra, rfl, hra⟩ := paired_getR hrv hrow
            have e12 := e1.trans e2
            have hra2 := e12 _ _ hra
            have hrn := rise_len (n := rows.length) (X := srt rows[l[j]]) (K67M.lt_of_le_nodup (K67M.srt_sorted _) ((K67M.srt_perm _).nodup_iff.mpr (hnd _ (List.getElem_mem hvn)))) fun w hw => by
              have : gr rows l[j] w = true := by
                rw [gr_get hrow]
                exact decide_eq_true ((K67M.srt_perm _).mem_iff.mp hw)
              exact (ok.lt this).2
            rw [(K67M.srt_perm _).length_eq] at hrn
            rw [show (V.int (0 + (j : Int))) = nI j by unfold nI; rw [Int.zero_add]]
            refine ⟨_, rfl, _, rfl, _, rfl, _, rfl, Pt, _, _, nI l[j], rfl, rfl, in2 hPt, atI_nat (nL_at hv), a, _, _, .ref ra, rfl, rfl, in2 (e12 _ _ ha), atI_nat hrr, ra, rfl, ⟨_, in2 hra2⟩, fun Dl nDl => ?_⟩
            refine lc_tm (R := fun v n => v = nI n) (f := fun w => !decide (w ∈ d) && !decide (w ∈ l)) (g := id) (S := fun _ v n => v = nI n) (fun _ _ _ _ _ h => h) (in2 hra2) (nL_paired _) nDl (by rw [nL_len]; omega) (fun _ => rfl) (fun x u hx hu' hxu => ?_) fun H3 ys e3 hDl hys => ?_
            · subst hxu
              refine ⟨fun H4 e4 Q' q' => ?_, fun _ H4 e4 Q' q' => ⟨_, rfl, q' _ H4 (.refl H4) rfl⟩⟩
              refine ⟨_, rfl, _, rfl, S, _, rfl, .inl (in2 ((e2.trans e4) _ _ hS)), rfl, nL_flat _, _, rfl, ?_⟩
              show (if (!inV (nI u) (nL d)) = true then _ else _)
              rw [inV_nL]
              refine ite2 (fun c4 => ?_) (fun c4 => ?_)
              · refine ⟨_, rfl, _, rfl, Pt, _, rfl, .inl (in2 (e4 _ _ hPt)), rfl, nL_flat _, _, rfl, ?_⟩
                have q2 : Q' (!decide (u ∈ d) && !decide (u ∈ l)) H4 := q' H4 (.refl H4)
                rw [c4, Bool.true_and, ← inV_nL] at q2
                exact q2
              · have q2 : Q' (!decide (u ∈ d) && !decide (u ∈ l)) H4 := q' H4 (.refl H4)
                rw [Bool.eq_false_iff.mpr c4, Bool.false_and] at q2
                exact q2
            · rw [List.map_id] at hys
              have hys' : ys = nL (rows[l[j]].filter fun w => !decide (w ∈ d) && !decide (w ∈ l)) := paired_nL hys
              subst hys'
              have hfl := List.length_filter_le (fun w => !decide (w ∈ d) && !decide (w ∈ l)) rows[l[j]]
              refine ⟨Pt, Dl, _, _, rfl, rfl, e3 _ _ hPt, hDl, ?_, fun P2 nP2 => ?_⟩
              · rw [nL_len, nL_len]
                exact small (by omega)
              · refine ⟨_, P2, l ++ rows[l[j]].filter fun w => !decide (w ∈ d) && !decide (w ∈ l), rfl, (e2.trans e3).trans (ex_new nP2), by rw [upd_same, nL_app], ?_⟩
                have hm : min (j + 1) (l ++ rows[l[j]].filter fun w => !decide (w ∈ d) && !decide (w ∈ l)).length = j + 1 := by
                  rw [List.length_append]
                  omega
                rw [hm]
                rw [Nat.min_eq_left (Nat.le_of_lt hjl)] at b
                refine b.many hv (hnd _ (List.getElem_mem hvn)) (fun w => ?_) (fun w gw hwd => ?_) fun w hw => (hD w).mpr (.inl hw)
                · rw [gr_get hrow, decide_eq_true_eq]
                · rcases (hD w).mp hwd with z | ⟨u, h1, h2, h3⟩
                  · exact z
                  · by_cases hwX : w ∈ X
                    · exact hwX
                    · exfalso
                      have r1 : Reach (gr rows) X i w := .step (b.rch _ (List.getElem_mem hjl)) gw hwX
                      exact fs.2 u h1 h2 (h3.trans (r1.symm ok fs.1))
          · have hjl : ¬ j < l.length := fun z => c2 (decide_eq_true (by rw [nL_len]; omega))
            refine ⟨_, Pt, l, rfl, e2, hPt, ?_⟩
            rw [show min (j + 1) l.length = min j l.length by omega]
            exact b
        · obtain ⟨o6, Pt, l, rfl, e2, hPt, b⟩ := hP
          have hll := b.len ok hi
          have hdone := b.done ok hi (by omega)
          have e12 := e1.trans e2
          refine ⟨_, rfl, _, rfl, S, Pt, _, _, rfl, rfl, e2 _ _ hS, hPt, ?_, fun S2 nS2 => ?_⟩
          · rw [nL_len, nL_len]
            exact small (by omega)
          · have e3 := e2.trans (ex_new (o := .lst (nL d ++ nL l)) nS2)
            have S2F : S2 ≠ F := fun z => by
              rw [z, e2 _ _ hF] at nS2
              cases nS2
            have hPt3 : upd H2 S2 (.lst (nL d ++ nL l)) Pt = some (.lst ((l.map fun n : Nat => (n : Int)).map V.int)) := by
              rw [← nL_int]
              exact ex_new nS2 _ _ hPt
            have hS3 : upd H2 S2 (.lst (nL d ++ nL l)) S2 = some (.lst (nL (d ++ l))) := by rw [upd_same, nL_app]
            generalize upd H2 S2 (.lst (nL d ++ nL l)) = H3 at e3 hPt3 hS3 ⊢
            refine ⟨_, rfl, .inl ⟨rfl, _, in2 (e3 _ _ hF)⟩, _, rfl, Pt, _, rfl, in2 hPt3, fun ms p1 hpm hsd np1 => ?_⟩
            rw [sorted_nat hpm hsd, hdone]
            refine ⟨p1, _, rfl, .inl ⟨in2 upd_same, fun p2 np2 => ?_⟩⟩
            have e4 := (ex_new (o := .lst (nL (comp (gr rows) rows.length X i))) np1).trans (ex_new (o := .tup (nL (comp (gr rows) rows.length X i))) np2)
            have hF4 := (e3.trans e4) _ _ hF
            have hl : xs.length = (partsTo (gr rows) rows.length X i).length := Paired.length hp
            have hpl : (partsTo (gr rows) rows.length X i).length ≤ i := by
              unfold partsTo
              rw [List.length_map]
              have := List.length_filter_le (fun v => @decide (Fst (gr rows) X v) (Classical.propDecidable _)) (List.range i)
              rw [List.length_range] at this
              exact this
            refine ⟨F, xs, _, rfl, rfl, hF4, smallT (by omega), ?_⟩
            have p2F : p2 ≠ F := fun z => by
              rw [z, (e3.trans (ex_new (o := .lst (nL (comp (gr rows) rows.length X i))) np1)) _ _ hF] at np2
              cases np2
            refine ⟨_, _, _, S2, d ++ l, xs ++ [.ref p2], rfl, ex_mut ((e1.trans e3).trans e4) nF, by rw [upd_ne S2F]; exact e4 _ _ hS3, S2F, ?_, ?_, upd_same, ?_⟩
            · rw [List.length_append, Nat.succ_mul]
              omega
            · have y := hD.yes ok hi fs
              intro v
              rw [← y v, List.mem_append, List.mem_append, ← hdone, (K67M.srt_perm l).mem_iff]
            · rw [partsTo_yes fs]
              exact paired_app (L2.Paired.mapP hp fun _ _ z => z.tm ((Tm.of (e3.trans e4)).trans (Tm.updL hF4))) (paired_one ⟨p2, rfl, by rw [upd_ne p2F, upd_same]⟩)
      · have hid : i ∈ d := by simpa using c1
        have fs : ¬ Fst (gr rows) X i := fun z => (hD.fst.mp z) hid
        refine ⟨_, _, _, S, d, xs, rfl, e1, hS, SF, ?_, hD.no ok fs, hF, by rw [partsTo_no fs]; exact hp⟩
        rw [Nat.succ_mul]
        omega
    · obtain ⟨o4, o5, o6, S, d, xs, rfl, e1, hS, SF, hdl, hD, hF, hp⟩ := hP
      exact ⟨_, rfl, q H' F e1 nF ⟨xs, hF, hp⟩⟩
def spInside : Sp := fun vs H Q _ => ∃ (x y : V) (l m : List Nat), vs = [x, y] ∧ TupN H x l ∧ TupN H y m ∧ Q (.bl (decide (∀ u ∈ l, u ∈ m))) H
theorem sc_law_inside : FnScope ["_law_inner", "_law_outer", "_law_v"] ["_law_inner", "_law_outer"] (defScope (top 42)) := ⟨rfl, rfl, rfl, by decide +kernel, rfl, by decide +kernel, by decide +kernel⟩
theorem cal_law_inside (T : Txt K mg C CT CB) (D : Df K mg "_law_inside" 42) : Cal P w K mg base 1 "_law_inside" spInside := by
  refine cal_mk D sc_law_inside (fun _ _ _ _ _ _ us hl => match us, hl with | [_, _], _ => rfl) (fun vs H Q E h => ?_) (fun f cdv A outer s H vs Q E hr h => ?_)
  · obtain ⟨x, y, l, m, rfl, _⟩ := h
    rfl
  · obtain ⟨x, y, l, m, rfl, ⟨a, rfl, ha⟩, ⟨b, rfl, hb⟩, q⟩ := h
    refine ⟨_, (pss_cons (ps_for PassesOwn.never rfl (pitK K (pv 0)) (pg_name (i := 2) sc_law_inside.nd rfl (.inl rfl)) (pss_one (ps_if (pt_cmpR (ninK K) (pv 2) (pv 1) (by rfl)) (pss_one (ps_ret pe_bl)) pss_nil)))
      (pss_one (ps_ret pe_bl))), ?_⟩
    refine ⟨_, rfl, a, rfl, ⟨_, in3 ha⟩, ?_⟩
    refine for_tup (xs := nL l) (fun j σ' H' => ∃ o : Option V, σ' = [some (.ref a), some (.ref b), o] ∧ H' = H ∧ ∀ u ∈ l.take j, u ∈ m) ⟨none, rfl, rfl, fun u h => absurd h (by simp)⟩ (fun j σ' H' _ hP => ?_) (fun j x σ' H' hx hP => ?_) (fun σ' H' hP => ?_)
    · obtain ⟨_, _, rfl, _⟩ := hP
      exact in3 ha
    · obtain ⟨o, rfl, rfl, hd⟩ := hP
      obtain ⟨u, hu, rfl⟩ := nL_get hx
      refine ⟨_, rfl, _, rfl, b, _, rfl, .inr (in3 hb), rfl, nL_flat _, _, rfl, ?_⟩
      rw [inV_nL]
      refine ite2 (fun c1 => ?_) (fun c1 => ?_)
      · have hum : u ∉ m := by simpa using c1
        rw [decide_eq_false fun z => hum (z u (List.mem_of_getElem? hu))] at q
        exact q
      · have hum : u ∈ m := by simpa using c1
        refine ⟨_, rfl, rfl, fun v hv => ?_⟩
        rw [List.take_add_one, hu] at hv
        rcases List.mem_append.mp hv with z | z
        · exact hd v z
        · rw [List.mem_singleton.mp z]
          exact hum
    · obtain ⟨o, rfl, rfl, hd⟩ := hP
      rw [nL_len, List.take_length] at hd
      rw [decide_eq_true hd] at q
      exact q
end
end K67
set_option Elab.async false
set_option linter.all false
set_option maxRecDepth 100000
set_option maxHeartbeats 2000000
namespace K67
open PySem PySem.Spec PyProof.Rows L2
open K67M (Gr comp IsPos Holds Gf Ok Reach srt ins del)
/-! ### all sets of nodes, by their sizes -/
def subs : Nat → List (List Nat)
  | 0 => [[]]
  | n + 1 => subs n ++ (subs n).map fun X => X ++ [n]
theorem subs_len : ∀ n, (subs n).length = 2 ^ n
  | 0 => rfl
  | n + 1 => by
    have := subs_len n
    rw [subs, List.length_append, List.length_map, this, Nat.pow_succ]
    omega
theorem mem_subs : ∀ (n : Nat) (X : List Nat), X.Pairwise (· < ·) → (∀ v ∈ X, v < n) → X ∈ subs n
  | 0, X, _, h => by
    cases X with
    | nil => exact List.mem_singleton.mpr rfl
    | cons v X => exact absurd (h v List.mem_cons_self) (Nat.not_lt_zero _)
  | n + 1, X, hp, h => by
    rw [subs, List.mem_append]
    rcases List.eq_nil_or_concat X with e | ⟨Y, b, e⟩
    · subst e
      exact .inl (mem_subs n [] .nil fun v hv => absurd hv (by simp))
    · rw [List.concat_eq_append] at e
      subst e
      have p := List.pairwise_append.mp hp
      have hb := h b (by simp)
      have hY : ∀ v ∈ Y, v < b := fun v hv => p.2.2 v hv b (by simp)
      by_cases z : b = n
      · subst z
        exact .inr (List.mem_map.mpr ⟨Y, mem_subs b Y p.1 hY, rfl⟩)
      · refine .inl (mem_subs n _ hp fun v hv => ?_)
        rcases List.mem_append.mp hv with q | q
        · have := hY v q
          omega
        · rw [List.mem_singleton] at q
          omega
theorem sets_few {n : Nat} {ts : List (List Nat)} (hn : n ≤ 8) (nd : ts.Nodup) (h : ∀ X ∈ ts, X.Pairwise (· < ·) ∧ ∀ v ∈ X, v < n) : ts.length ≤ 256 := by
  have := K67M.nodup_sub (m := subs n) nd fun X hX => mem_subs n X (h X hX).1 (h X hX).2
  rw [subs_len] at this
  exact Nat.le_trans this (Nat.le_trans (Nat.pow_le_pow_right (by decide) hn) (by decide))
def kd (n : Nat) (X : List Nat) : List (List Nat) := ((List.range n).filter fun v => decide (nxt X ≤ v)).map fun v => X ++ [v]
theorem mem_kd {n : Nat} {X Y : List Nat} : Y ∈ kd n X ↔ ∃ v, nxt X ≤ v ∧ v < n ∧ Y = X ++ [v] := by
  unfold kd
  rw [List.mem_map]
  constructor
  · rintro ⟨v, hv, rfl⟩
    obtain ⟨h1, h2⟩ := List.mem_filter.mp hv
    exact ⟨v, of_decide_eq_true h2, List.mem_range.mp h1, rfl⟩
  · rintro ⟨v, h1, h2, rfl⟩
    exact ⟨v, List.mem_filter.mpr ⟨List.mem_range.mpr h2, decide_eq_true h1⟩, rfl⟩
def Lv (n s : Nat) (ts : List (List Nat)) : Prop := ts.Nodup ∧ ∀ X, X ∈ ts ↔ X.Pairwise (· < ·) ∧ (∀ v ∈ X, v < n) ∧ X.length = s
theorem Lv.start {n : Nat} : Lv n 0 [[]] := ⟨by simp, fun X => by
  rw [List.mem_singleton]
  constructor
  · rintro rfl
    exact ⟨.nil, fun v h => absurd h (by simp), rfl⟩
  · rintro ⟨_, _, h⟩
    exact List.eq_nil_of_length_eq_zero h⟩
theorem Lv.step {n s : Nat} {ts : List (List Nat)} (h : Lv n s ts) : Lv n (s + 1) (ts.flatMap (kd n)) := by
  constructor
  · rw [List.nodup_iff_pairwise_ne, List.pairwise_flatMap]
    refine ⟨fun X _ => ?_, (List.nodup_iff_pairwise_ne.mp h.1).imp fun {X Y} ne => fun x hx y hy e => ?_⟩
    · unfold kd
      rw [List.pairwise_map]
      refine (List.pairwise_lt_range.filter _).imp fun {u v} huv e => ?_
      have := (List.cons.inj (List.append_cancel_left e)).1
      omega
    · obtain ⟨u, _, _, rfl⟩ := mem_kd.mp hx
      obtain ⟨v, _, _, rfl⟩ := mem_kd.mp hy
      have := congrArg List.dropLast e
      rw [List.dropLast_concat, List.dropLast_concat] at this
      exact ne this
  · intro Y
    rw [List.mem_flatMap]
    constructor
    · rintro ⟨X, hX, hY⟩
      obtain ⟨v, h1, h2, rfl⟩ := mem_kd.mp hY
      obtain ⟨a, b, c⟩ := (h.2 X).mp hX
      refine ⟨List.pairwise_append.mpr ⟨a, List.pairwise_singleton _ _, fun u hu w hw => ?_⟩, fun u hu => ?_, by rw [List.length_append, c]; rfl⟩
      · rw [List.mem_singleton] at hw
        have := nxt_gt a u hu
        omega
      · rcases List.mem_append.mp hu with q | q
        · exact b u q
        · rw [List.mem_singleton] at q
          omega
    · rintro ⟨a, b, c⟩
      rcases List.eq_nil_or_concat Y with e | ⟨X, v, e⟩
      · subst e
        cases c
      · rw [List.concat_eq_append] at e
        subst e
        have p := List.pairwise_append.mp a
        refine ⟨X, (h.2 X).mpr ⟨p.1, fun u hu => b u (List.mem_append_left _ hu), ?_⟩, mem_kd.mpr ⟨v, ?_, b v (by simp), rfl⟩⟩
        · rw [List.length_append, List.length_singleton] at c
          omega
        · rcases List.eq_nil_or_concat X with e | ⟨Z, b', e⟩
          · rw [e]
            exact Nat.zero_le _
          · rw [List.concat_eq_append] at e
            subst e
            rw [nxt_app]
            exact p.2.2 b' (by simp) v (by simp)
section
variable {P : Program} {w : World} {K : PySem.W.Frag} {mg : Str → Option Value} {base : Heap} {C CT CB : Addr}
def spLPos : Sp := fun vs H Q _ => ∃ (a : Addr) (k : Nat) (rows : List (List Nat)), vs = [.ref a, nI k] ∧ LOf LstN H a rows ∧ Ok rows.length (gr rows) ∧ RowsNd rows ∧ rows.length ≤ 8 ∧ k ≤ 7 ∧
  ∀ H' p ps, Ex H H' → H p = none → LOf PosV H' p ps → AllPos (gr rows) rows.length k ps → ps.length ≤ 1000000 → Q (.ref p) H'
theorem sc_law_positions : FnScope ["_law_near_here", "_law_k", "_law_rows", "_law_found", "_law_size", "_law_grown", "_law_searched", "_law_part", "_law_v"] ["_law_near_here", "_law_k"] (defScope (top 41)) := ⟨rfl, rfl, rfl, by decide +kernel, rfl, by decide +kernel, by decide +kernel⟩
theorem cal_law_positions (T : Txt K mg C CT CB) (D : Df K mg "_law_positions" 41) (c_law_components : Cal P w K mg base 1 "_law_components" spComps) : Cal P w K mg base 2 "_law_positions" spLPos := by
  refine cal_mk D sc_law_positions (fun _ _ _ _ _ _ us hl => match us, hl with | [_, _], _ => rfl) (fun vs H Q E h => ?_) (fun f cdv A outer s H vs Q E hr h => ?_)
  · obtain ⟨a, k, rows, rfl, _⟩ := h
    rfl
  · obtain ⟨a, k, rows, rfl, hLa, ok, hnd, hn, hk, q⟩ := h
    obtain ⟨rv, ha, hrv⟩ := id hLa
    have hrl : rv.length = rows.length := Paired.length hrv
    refine ⟨_, (pss_cons (ps_set (i := 2) sc_law_positions.nd rfl (.inl rfl) (pe_lst (pa_cons (pe_tup pa_nil) pa_nil)))
      (pss_cons (ps_set (i := 3) sc_law_positions.nd rfl (.inl rfl) (pe_lst pa_nil))
      (pss_cons (ps_for PassesOwn.never rfl (pi_range1 rfl T.zrange (pa_cons (pe_op op_add (pv 1) pe_int) pa_nil)) (pg_name (i := 4) sc_law_positions.nd rfl (.inl rfl)) (pss_cons (ps_set (i := 5) sc_law_positions.nd rfl (.inl rfl) (pe_lst pa_nil))
      (pss_cons (ps_for PassesOwn.never rfl (pilK K (pv 2)) (pg_name (i := 6) sc_law_positions.nd rfl (.inl rfl)) (pss_cons (ps_for PassesOwn.never rfl (pilK K (pe_c c_law_components hr (by decide) rfl (pa_cons (pv 0) (pa_cons (pe_callTy (lstK K) (by rfl) T.zlist (by decide +kernel) (pa_cons (pv 6) pa_nil)) pa_nil)))) (pg_name (i := 7) sc_law_positions.nd rfl (.inl rfl)) (pss_one (ps_expr (pe_bm PySem.F.plainAttrs_list PySem.F.slot_list_append PySem.F.type_list_append mt_append (pv 3) (pa_cons (pe_tup (pa_cons (pv 6) (pa_cons (pv 7) pa_nil))) pa_nil)))))
      (pss_one (ps_for PassesOwn.never rfl (pi_range1 rfl T.zrange (pa_cons (pe_callB (lenK K) (by rfl) T.zlen PySem.boot_len (pa_cons (pv 0) pa_nil)) pa_nil)) (pg_name (i := 8) sc_law_positions.nd rfl (.inl rfl)) (pss_one (ps_if (PW.pt (pw_or (pt_cmpR op_eq (pe_callB (lenK K) (by rfl) T.zlen PySem.boot_len (pa_cons (pv 6) pa_nil)) pe_int (nomark _)) (pw_or1 (pt_cmpR op_gt (pv 8) (pe_ix (ixTK K) (pv 6) (pe_op op_sub (pe_callB (lenK K) (by rfl) T.zlen PySem.boot_len (pa_cons (pv 6) pa_nil)) pe_int) (fun _ _ => rfl)) (nomark _))))) (pss_one (ps_expr (pe_bm PySem.F.plainAttrs_list PySem.F.slot_list_append PySem.F.type_list_append mt_append (pv 5) (pa_cons (pe_op op_catA (pv 6) (pe_tup (pa_cons (pv 8) pa_nil))) pa_nil)))) pss_nil))))))
      (pss_one (ps_set (i := 2) sc_law_positions.nd rfl (.inl rfl) (pv 5))))))
      (pss_one (ps_ret (pv 3)))))), ?_⟩
    refine ⟨Nat.zero_le _, fun t0 nt0 => ⟨small (by show 1 ≤ 10000000; decide), fun R0 nR0 => ?_⟩⟩
    have e0 := (ex_new (o := .tup []) nt0).trans (ex_new (o := .lst [V.ref t0]) nR0)
    have t0R : t0 ≠ R0 := fun z => by
      rw [← z, upd_same] at nR0
      cases nR0
    have hR0 : upd (upd H t0 (.tup [])) R0 (.lst [V.ref t0]) R0 = some (.lst [.ref t0]) := upd_same
    have ht0 : TupN (upd (upd H t0 (.tup [])) R0 (.lst [V.ref t0])) (.ref t0) [] := ⟨t0, rfl, by rw [upd_ne t0R, upd_same]; rfl⟩
    generalize upd (upd H t0 (.tup [])) R0 (.lst [V.ref t0]) = H1 at e0 hR0 ht0 ⊢
    refine ⟨Nat.zero_le _, fun F nF => ?_⟩
    have e1 := e0.trans (ex_new (o := .lst []) nF)
    have nFH := ex_none e0 nF
    have R0F : R0 ≠ F := fun z => by
      rw [← z, hR0] at nF
      cases nF
    refine ⟨_, rfl, _, _, rfl, rfl, _, rfl, by omega, by omega, ?_⟩
    rw [show ((k : Int) + 1).toNat = k + 1 by omega]
    refine for_range (fun s σ' H' => ∃ (o4 o5 o6 o7 o8 : Option V) (R : Addr) (tx fx : List V) (ts dn : List (List Nat)) (fp : List K67M.Pos), σ' = [some (.ref a), some (nI k), some (.ref R), some (.ref F), o4, o5, o6, o7, o8] ∧ Ex H H' ∧ H' R = some (.lst tx) ∧ Paired (TupN H') tx ts ∧ Lv rows.length s ts ∧
        H' F = some (.lst fx) ∧ Paired (PosV H') fx fp ∧ PosOf (gr rows) rows.length dn fp ∧ dn.Nodup ∧ (∀ X, X ∈ dn ↔ X.Pairwise (· < ·) ∧ (∀ v ∈ X, v < rows.length) ∧ X.length < s) ∧ R ≠ F)
      ⟨none, none, none, none, none, R0, [.ref t0], [], [[]], [], [], rfl, e1, ex_new nF _ _ hR0, paired_one (ht0.tm (Tm.of (ex_new nF))), .start, upd_same, .nil, .nil, List.nodup_nil, fun X => ⟨fun h => absurd h (by simp), fun h => absurd h.2.2 (Nat.not_lt_zero _)⟩, R0F⟩ (fun s σ' H' hs hP => ?_) (fun σ' H' hP => ?_)
    · obtain ⟨o4, o5, o6, o7, o8, R, tx, fx, ts, dn, fp, rfl, e2, hR, htx, lv, hF, hfx, PO, dnd, hdn, RF⟩ := hP
      have hdl := sets_few hn dnd fun X hX => ⟨((hdn X).mp hX).1, ((hdn X).mp hX).2.1⟩
      have htl := sets_few hn lv.1 fun X hX => ⟨((lv.2 X).mp hX).1, ((lv.2 X).mp hX).2.1⟩
      have htxl : tx.length = ts.length := Paired.length htx
      refine ⟨Nat.zero_le _, fun W nW => ?_⟩
      have e3 := ex_new (o := .lst []) nW
      have nWH := ex_none e2 nW
      have WF : W ≠ F := fun z => by
        rw [z, hF] at nW
        cases nW
      have WR : W ≠ R := fun z => by
        rw [z, hR] at nW
        cases nW
      refine ⟨_, rfl, R, rfl, ⟨_, in2 (e3 _ _ hR)⟩, ?_⟩
      refine for_list (xs := tx) (fun j σ' H' => ∃ (o6 o7 o8 : Option V) (fx gx : List V) (fp : List K67M.Pos), σ' = [some (.ref a), some (nI k), some (.ref R), some (.ref F), some (.int (0 + (s : Int))), some (.ref W), o6, o7, o8] ∧ Ex H H' ∧ H' R = some (.lst tx) ∧ Paired (TupN H') tx ts ∧
          H' F = some (.lst fx) ∧ Paired (PosV H') fx fp ∧ PosOf (gr rows) rows.length (dn ++ ts.take j) fp ∧ H' W = some (.lst gx) ∧ Paired (TupN H') gx ((ts.take j).flatMap (kd rows.length)) ∧ gx.length ≤ 8 * j)
        ⟨o6, o7, o8, fx, [], fp, rfl, e2.trans e3, e3 _ _ hR, L2.Paired.mapP htx fun _ _ z => z.tm (Tm.of e3), e3 _ _ hF, L2.Paired.mapP hfx fun _ _ z => z.tm (Tm.of e3), by rw [List.take_zero, List.append_nil]; exact PO, upd_same, .nil, Nat.zero_le _⟩ (fun j σ' H' _ hP => ?_) (fun j x σ' H' hx hP => ?_) (fun σ' H' hP => ?_)
      · obtain ⟨_, _, _, _, _, _, _, _, hR4, _⟩ := hP
        exact in2 hR4
      · obtain ⟨o6, o7, o8, fx, gx, fp, rfl, e4, hR4, htx4, hF4, hfx4, PO4, hW4, hgx4, hgl⟩ := hP
        obtain ⟨X, hX, t, rfl, ht⟩ := paired_get htx4 hx
        have hXm : X ∈ ts := List.mem_of_getElem? hX
        have hXv := (lv.2 X).mp hXm
        have hXl := rise_len hXv.1 hXv.2.1
        have hj : j < ts.length := (List.getElem?_eq_some_iff.mp hX).1
        have tk : ts.take (j + 1) = ts.take j ++ [X] := by
          rw [List.take_add_one, hX]
          rfl
        have hfl : fx.length = fp.length := Paired.length hfx4
        have hfp8 : fp.length ≤ 512 * 8 := Nat.le_trans PO4.2.2 (Nat.mul_le_mul (by rw [List.length_append, List.length_take]; omega) hn)
        refine ⟨_, rfl, _, rfl, t, _, rfl, .inr (in3 ht), fun L nL0 => ?_⟩
        have e5 := ex_new (o := .lst (nL X)) nL0
        refine ⟨a, L, rows, X, rfl, hLa.ex (fun e z => z.ex e) (e4.trans e5), ok, hnd, by omega, upd_same, by omega, fun H5 p e6 np hp => ?_⟩
        obtain ⟨px, hpl, hpx⟩ := hp
        have e56 := e5.trans e6
        have pF : p ≠ F := fun z => by
          rw [z, e5 _ _ hF4] at np
          cases np
        have pW : p ≠ W := fun z => by
          rw [z, e5 _ _ hW4] at np
          cases np
        have hpxl : px.length = (parts (gr rows) rows.length X).length := Paired.length hpx
        have hprt := parts_len (G := gr rows) (n := rows.length) (X := X)
        refine ⟨p, rfl, ⟨_, in2 hpl⟩, ?_⟩
        refine for_list (xs := px) (fun i σ' H' => ∃ (o7 : Option V) (fy : List V), σ' = [some (.ref a), some (nI k), some (.ref R), some (.ref F), some (.int (0 + (s : Int))), some (.ref W), some (.ref t), o7, o8] ∧ Ex H H' ∧ H' p = some (.lst px) ∧ Paired (TupN H') px (parts (gr rows) rows.length X) ∧ H' R = some (.lst tx) ∧ Paired (TupN H') tx ts ∧
            H' F = some (.lst fy) ∧ Paired (PosV H') fy (fp ++ ((parts (gr rows) rows.length X).take i).map fun c => (X, c)) ∧ H' W = some (.lst gx) ∧ Paired (TupN H') gx ((ts.take j).flatMap (kd rows.length)) ∧ H' t = some (.tup (nL X)) ∧ fy.length ≤ 5000 + i)
          ⟨o7, fx, rfl, e4.trans e56, hpl, hpx, e56 _ _ hR4, L2.Paired.mapP htx4 fun _ _ z => z.tm (Tm.of e56), e56 _ _ hF4, by rw [List.take_zero, List.map_nil, List.append_nil]; exact L2.Paired.mapP hfx4 fun _ _ z => z.tm (Tm.of e56), e56 _ _ hW4, L2.Paired.mapP hgx4 fun _ _ z => z.tm (Tm.of e56), e56 _ _ ht, by omega⟩ (fun i σ' H' _ hP => ?_) (fun i x σ' H' hx hP => ?_) (fun σ' H' hP => ?_)
        · obtain ⟨_, _, _, _, h, _⟩ := hP
          exact in2 h
        · obtain ⟨o7, fy, rfl, e7, hp7, hpx7, hR7, htx7, hF7, hfy7, hW7, hgx7, ht7, hfyl⟩ := hP
          obtain ⟨c, hc, cc, rfl, hcc⟩ := paired_get hpx7 hx
          have hi : i < px.length := (List.getElem?_eq_some_iff.mp hx).1
          refine ⟨_, rfl, .inl ⟨rfl, _, in2 hF7⟩, _, rfl, _, rfl, small (by show 2 ≤ 10000000; decide), fun t2 nt2 => ?_⟩
          have e8 := ex_new (o := .tup [V.ref t, V.ref cc]) nt2
          have t2F : t2 ≠ F := fun z => by
            rw [z, hF7] at nt2
            cases nt2
          have tm8 : Tm H' (upd (upd H' t2 (.tup [V.ref t, V.ref cc])) F (.lst (fy ++ [.ref t2]))) := (Tm.of e8).trans (Tm.updL (e8 _ _ hF7))
          refine ⟨F, fy, _, rfl, rfl, e8 _ _ hF7, smallT (by omega), ?_⟩
          refine ⟨_, fy ++ [.ref t2], rfl, ex_mut (e7.trans e8) nFH, by rw [upd_ne pF]; exact e8 _ _ hp7, L2.Paired.mapP hpx7 fun _ _ z => z.tm tm8, by rw [upd_ne RF]; exact e8 _ _ hR7, L2.Paired.mapP htx7 fun _ _ z => z.tm tm8, upd_same, ?_, by rw [upd_ne WF]; exact e8 _ _ hW7, L2.Paired.mapP hgx7 fun _ _ z => z.tm tm8, tm8 _ _ ht7, by rw [List.length_append]; exact Nat.succ_le_succ hfyl⟩
          rw [List.take_add_one, hc]
          show Paired _ _ (fp ++ ((parts (gr rows) rows.length X).take i ++ [c]).map fun c => (X, c))
          rw [List.map_append, ← List.append_assoc]
          exact paired_app (L2.Paired.mapP hfy7 fun _ _ z => z.tm tm8) (paired_one ⟨t2, t, cc, rfl, by rw [upd_ne t2F, upd_same], tm8 _ _ ht7, tm8 _ _ hcc⟩)
        · obtain ⟨o7, fy, rfl, e7, hp7, hpx7, hR7, htx7, hF7, hfy7, hW7, hgx7, ht7, hfyl⟩ := hP
          rw [hpxl, List.take_length] at hfy7
          have PO7 := PO4.add (X := X) ok fun z => by
            rcases List.mem_append.mp z with z | z
            · have := ((hdn X).mp z).2.2
              omega
            · obtain ⟨i, hi, ei⟩ := List.mem_iff_getElem.mp z
              rw [List.length_take] at hi
              rw [List.getElem_take] at ei
              obtain ⟨_, ej⟩ := List.getElem?_eq_some_iff.mp hX
              have := List.pairwise_iff_getElem.mp (List.nodup_iff_pairwise_ne.mp lv.1) i j (by omega) hj (by omega)
              rw [ei, ej] at this
              exact this rfl
          rw [List.append_assoc, ← tk] at PO7
          refine ⟨_, rfl, a, _, rfl, .inl (in2 (e7 _ _ ha)), _, rfl, by omega, by omega, ?_⟩
          rw [show ((rv.length : Nat) : Int).toNat = rows.length by omega]
          refine for_range (fun v σ' H' => ∃ (o8 : Option V) (gy : List V), σ' = [some (.ref a), some (nI k), some (.ref R), some (.ref F), some (.int (0 + (s : Int))), some (.ref W), some (.ref t), o7, o8] ∧ Ex H H' ∧ H' R = some (.lst tx) ∧ Paired (TupN H') tx ts ∧
              H' F = some (.lst fy) ∧ Paired (PosV H') fy (fp ++ (parts (gr rows) rows.length X).map fun c => (X, c)) ∧ H' W = some (.lst gy) ∧ Paired (TupN H') gy ((ts.take j).flatMap (kd rows.length) ++ ((List.range v).filter fun v => decide (nxt X ≤ v)).map fun v => X ++ [v]) ∧ H' t = some (.tup (nL X)) ∧ gy.length ≤ 8 * j + v)
            ⟨o8, gx, rfl, e7, hR7, htx7, hF7, hfy7, hW7, by simpa using hgx7, ht7, hgl⟩ (fun v σ' H' hv hP => ?_) (fun σ' H' hP => ?_)
          · obtain ⟨o8, gy, rfl, e9, hR9, htx9, hF9, hfy9, hW9, hgy9, ht9, hgyl⟩ := hP
            rw [show (V.int (0 + (v : Int))) = nI v by unfold nI; rw [Int.zero_add]]
            have rs : (List.range (v + 1)).filter (fun v => decide (nxt X ≤ v)) = (List.range v).filter (fun v => decide (nxt X ≤ v)) ++ (if nxt X ≤ v then [v] else []) := by
              rw [List.range_succ, List.filter_append, List.filter_cons]
              by_cases z : nxt X ≤ v
              · rw [if_pos (decide_eq_true z), if_pos z]
                rfl
              · rw [if_neg (by rw [decide_eq_true_eq]; exact z), if_neg z]
                rfl
            have yes : nxt X ≤ v → ∀ c H2, Ex H' H2 → H2 c = some (.tup (nL X ++ [nI v])) → ∃ (o8 : Option V) (gy' : List V), [some (V.ref a), some (nI k), some (.ref R), some (.ref F), some (.int (0 + (s : Int))), some (.ref W), some (.ref t), o7, some (nI v)] = [some (.ref a), some (nI k), some (.ref R), some (.ref F), some (.int (0 + (s : Int))), some (.ref W), some (.ref t), o7, o8] ∧ Ex H (upd H2 W (.lst (gy ++ [.ref c]))) ∧ upd H2 W (.lst (gy ++ [.ref c])) R = some (.lst tx) ∧ Paired (TupN (upd H2 W (.lst (gy ++ [.ref c])))) tx ts ∧
                upd H2 W (.lst (gy ++ [.ref c])) F = some (.lst fy) ∧ Paired (PosV (upd H2 W (.lst (gy ++ [.ref c])))) fy (fp ++ (parts (gr rows) rows.length X).map fun c => (X, c)) ∧ upd H2 W (.lst (gy ++ [.ref c])) W = some (.lst gy') ∧ Paired (TupN (upd H2 W (.lst (gy ++ [.ref c])))) gy' ((ts.take j).flatMap (kd rows.length) ++ ((List.range (v + 1)).filter fun v => decide (nxt X ≤ v)).map fun v => X ++ [v]) ∧ upd H2 W (.lst (gy ++ [.ref c])) t = some (.tup (nL X)) ∧ gy'.length ≤ 8 * j + (v + 1) := fun hnx c H2 ec hc => by
              have tmc : Tm H' (upd H2 W (.lst (gy ++ [.ref c]))) := (Tm.of ec).trans (Tm.updL (ec _ _ hW9))
              have tmc2 : Tm H2 (upd H2 W (.lst (gy ++ [.ref c]))) := Tm.updL (ec _ _ hW9)
              refine ⟨_, gy ++ [.ref c], rfl, ex_mut (e9.trans ec) nWH, by rw [upd_ne WR.symm]; exact ec _ _ hR9, L2.Paired.mapP htx9 fun _ _ z => z.tm tmc, by rw [upd_ne WF.symm]; exact ec _ _ hF9, L2.Paired.mapP hfy9 fun _ _ z => z.tm tmc, upd_same, ?_, tmc _ _ ht9, by rw [List.length_append]; exact Nat.succ_le_succ hgyl⟩
              rw [rs, if_pos hnx, List.map_append, ← List.append_assoc]
              exact paired_app (L2.Paired.mapP hgy9 fun _ _ z => z.tm tmc) (paired_one ⟨c, rfl, by rw [tmc2 _ _ hc, nL_app]; rfl⟩)
            have no : ¬ nxt X ≤ v → ∃ (o8 : Option V) (gy' : List V), [some (V.ref a), some (nI k), some (.ref R), some (.ref F), some (.int (0 + (s : Int))), some (.ref W), some (.ref t), o7, some (nI v)] = [some (.ref a), some (nI k), some (.ref R), some (.ref F), some (.int (0 + (s : Int))), some (.ref W), some (.ref t), o7, o8] ∧ Ex H H' ∧ H' R = some (.lst tx) ∧ Paired (TupN H') tx ts ∧
                H' F = some (.lst fy) ∧ Paired (PosV H') fy (fp ++ (parts (gr rows) rows.length X).map fun c => (X, c)) ∧ H' W = some (.lst gy') ∧ Paired (TupN H') gy' ((ts.take j).flatMap (kd rows.length) ++ ((List.range (v + 1)).filter fun v => decide (nxt X ≤ v)).map fun v => X ++ [v]) ∧ H' t = some (.tup (nL X)) ∧ gy'.length ≤ 8 * j + (v + 1) := fun hnx => by
              refine ⟨_, gy, rfl, e9, hR9, htx9, hF9, hfy9, hW9, ?_, ht9, by omega⟩
              rw [rs, if_neg hnx, List.append_nil]
              exact hgy9
            have hgs : gy.length < sizeLine := smallT (by omega)
            rcases List.eq_nil_or_concat X with ex | ⟨Z, b, ex⟩
            · subst ex
              refine ⟨_, rfl, t, _, rfl, .inr (in3 ht9), rfl, true, rfl, iteT (iteT ?_)⟩
              refine ⟨_, rfl, .inl ⟨rfl, _, in2 hW9⟩, _, rfl, _, rfl, small (by show 1 ≤ 10000000; decide), fun b1 nb1 => ?_⟩
              have eb := ex_new (o := .tup [nI v]) nb1
              refine catA_read (eb _ _ ht9) upd_same (by simp) (by show 0 + 1 ≤ _; decide) fun c H2 ec hc => ?_
              exact ⟨W, gy, _, rfl, rfl, (eb.trans ec) _ _ hW9, hgs, yes (Nat.zero_le _) c H2 (eb.trans ec) hc⟩
            · rw [List.concat_eq_append] at ex
              have hXe := ex
              have hlen : (nL X).length = Z.length + 1 := by rw [nL_len, ex, List.length_append]; rfl
              have hat : atI (nL X) (((nL X).length : Int) - 1) = some (nI b) := by
                rw [hlen, show ((Z.length + 1 : Nat) : Int) - 1 = (Z.length : Int) by omega]
                refine atI_nat (nL_at ?_)
                rw [ex]
                simp
              refine ⟨_, rfl, t, _, rfl, .inr (in3 ht9), rfl, false, congrArg V.bl (decide_eq_false fun z => ?_), iteF ?_⟩
              · have : (((nL X).length : Nat) : Int) = 0 := V.int.inj z
                omega
              refine ⟨_, rfl, _, rfl, _, rfl, t, _, rfl, .inr (in3 ht9), _, _, rfl, rfl, t, _, _, nI b, rfl, rfl, in3 ht9, hat, _, _, rfl, rfl, _, rfl, ?_⟩
              have hnx : nxt X = b + 1 := by rw [ex, nxt_app]
              refine ite2 (fun c1 => ?_) (fun c1 => ?_)
              · have hb : nxt X ≤ v := by
                  have := of_decide_eq_true c1
                  omega
                refine ⟨_, rfl, .inl ⟨rfl, _, in2 hW9⟩, _, rfl, _, rfl, small (by show 1 ≤ 10000000; decide), fun b1 nb1 => ?_⟩
                have eb := ex_new (o := .tup [nI v]) nb1
                refine catA_read (eb _ _ ht9) upd_same (by simp) (by rw [hlen]; show Z.length + 1 + 1 ≤ _; have : X.length = Z.length + 1 := by rw [ex, List.length_append]; rfl
                                                                     omega) fun c H2 ec hc => ?_
                exact ⟨W, gy, _, rfl, rfl, (eb.trans ec) _ _ hW9, hgs, yes hb c H2 (eb.trans ec) hc⟩
              · exact no fun z => c1 (decide_eq_true (by omega))
          · obtain ⟨o8, gy, rfl, e9, hR9, htx9, hF9, hfy9, hW9, hgy9, ht9, hgyl⟩ := hP
            refine ⟨_, _, _, fy, gy, _, rfl, e9, hR9, htx9, hF9, hfy9, PO7, hW9, ?_, by omega⟩
            rw [tk, List.flatMap_append]
            simpa [kd] using hgy9
      · obtain ⟨o6, o7, o8, fx, gx, fp, rfl, e4, hR4, htx4, hF4, hfx4, PO4, hW4, hgx4, hgl⟩ := hP
        rw [htxl, List.take_length] at PO4 hgx4
        refine ⟨_, rfl, _, _, _, _, _, W, gx, fx, _, dn ++ ts, fp, rfl, e4, hW4, hgx4, lv.step, hF4, hfx4, PO4, ?_, fun X => ?_, WF⟩
        · rw [List.nodup_append]
          refine ⟨dnd, lv.1, fun x hx y hy e => ?_⟩
          subst e
          have h1 := ((hdn x).mp hx).2.2
          have h2 := ((lv.2 x).mp hy).2.2
          omega
        · rw [List.mem_append, hdn, lv.2]
          constructor
          · rintro (⟨a, b, c⟩ | ⟨a, b, c⟩)
            · exact ⟨a, b, by omega⟩
            · exact ⟨a, b, by omega⟩
          · rintro ⟨a, b, c⟩
            by_cases z : X.length < s
            · exact .inl ⟨a, b, z⟩
            · exact .inr ⟨a, b, by omega⟩
    · obtain ⟨o4, o5, o6, o7, o8, R, tx, fx, ts, dn, fp, rfl, e2, hR, htx, lv, hF, hfx, PO, dnd, hdn, RF⟩ := hP
      have hdl := sets_few hn dnd fun X hX => ⟨((hdn X).mp hX).1, ((hdn X).mp hX).2.1⟩
      refine ⟨_, rfl, q H' F fp e2 nFH ⟨fx, hF, hfx⟩ (PO.all ok fun X => ?_) (Nat.le_trans PO.2.2 (Nat.le_trans (Nat.mul_le_mul hdl hn) (by decide)))⟩
      rw [hdn]
      unfold Vld
      exact ⟨fun ⟨a, b, c⟩ => ⟨a, b, by omega⟩, fun ⟨a, b, c⟩ => ⟨a, b, by omega⟩⟩
end
end K67
set_option Elab.async false
set_option linter.all false
set_option maxRecDepth 100000
set_option maxHeartbeats 2000000
namespace K67
open PySem PySem.Spec PyProof.Rows L2
open K67M (Gr comp IsPos Holds Gf Ok Reach srt ins del)
theorem Ent.up {H H' : Hp} {d : Addr} {o : Option V} {l : List (List Nat)} {x : HO} {kvs : List (List Key × V)} (h : Ent H o l) (e : Ex H H') (hd : H' d = some (.dT kvs)) : Ent (upd H' d x) o l :=
  h.imp id fun ⟨a, q1, q2⟩ => ⟨a, q1, by
    obtain ⟨xs, h1, h2⟩ := q2
    have ad : a ≠ d := fun z => by
      rw [← z, e _ _ h1] at hd
      cases hd
    exact ⟨xs, by rw [upd_ne ad]; exact e _ _ h1, L2.Paired.mapP h2 fun _ _ z => z.tm ((Tm.of e).trans (Tm.updD hd))⟩⟩
section
variable {P : Program} {w : World} {K : PySem.W.Frag} {mg : Str → Option Value} {base : Heap} {C CT CB : Addr}
theorem sc_law_by_searched : FnScope ["_law_positions_here", "_law_parts", "_law_position"] ["_law_positions_here"] (defScope (top 44)) := ⟨rfl, rfl, rfl, by decide +kernel, rfl, by decide +kernel, by decide +kernel⟩
theorem cal_law_by_searched (T : Txt K mg C CT CB) (D : Df K mg "_law_by_searched" 44) : Cal P w K mg base 1 "_law_by_searched" spTable := by
  refine cal_mk D sc_law_by_searched (fun _ _ _ _ _ _ us hl => match us, hl with | [_], _ => rfl) (fun vs H Q E h => ?_) (fun f cdv A outer s H vs Q E hr h => ?_)
  · obtain ⟨a, ps, rfl, _⟩ := h
    rfl
  · obtain ⟨a, ps, rfl, ⟨xs, ha, hxs⟩, hl, q⟩ := h
    have hu := hu_of hr
    refine ⟨_, (pss_cons (ps_set (i := 1) sc_law_by_searched.nd rfl (.inl rfl) pe_dnewT)
      (pss_cons (ps_for PassesOwn.never rfl (pilK K (pv 0)) (pg_name (i := 2) sc_law_by_searched.nd rfl (.inl rfl)) (pss_one (ps_dput hu (pv 1) (pe_ix (ixTK K) (pv 2) pe_int (fun _ _ => rfl)) (pe_op op_cat (pe_dget2 hu (pv 1) (pe_ix (ixTK K) (pv 2) pe_int (fun _ _ => rfl)) (pe_lst pa_nil) ⟨rfl, rfl, rfl, rfl⟩) (pe_lst (pa_cons (pe_ix (ixTK K) (pv 2) pe_int (fun _ _ => rfl)) pa_nil))) rfl)))
      (pss_one (ps_ret (pv 1))))), ?_⟩
    refine fun d nd => ?_
    refine ⟨_, rfl, a, rfl, ⟨_, in2 (ex_new nd _ _ ha)⟩, ?_⟩
    have hxl : xs.length = ps.length := Paired.length hxs
    refine for_list (xs := xs) (fun j σ' H' => ∃ (o2 : Option V) (kvs : List (List Key × V)), σ' = [some (.ref a), some (.ref d), o2] ∧ Ex H H' ∧ H' d = some (.dT kvs) ∧ kvs.length ≤ j ∧ ∀ X, Ent H' (valV kvs (keyN X)) (at1 X (ps.take j)))
      ⟨none, [], rfl, ex_new nd, upd_same, Nat.zero_le _, fun X => .inl ⟨rfl, rfl⟩⟩ (fun j σ' H' _ hP => ?_) (fun j x σ' H' hx hP => ?_) (fun σ' H' hP => ?_)
    · obtain ⟨_, _, _, e2, _⟩ := hP
      exact in2 (e2 _ _ ha)
    · obtain ⟨o2, kvs, rfl, e1, hd, hkl, hent⟩ := hP
      obtain ⟨p, hp, hpv⟩ := paired_get hxs hx
      obtain ⟨X, C⟩ := p
      obtain ⟨t, pa, pb, rfl, h1, h2, h3⟩ := hpv.tm (Tm.of e1)
      have tk : ps.take (j + 1) = ps.take j ++ [(X, C)] := by
        rw [List.take_add_one, hp]
        rfl
      have hj : j < ps.length := (List.getElem?_eq_some_iff.mp hp).1
      have tb : TblOk H' d (ps.take j) := ⟨kvs, hd, hent⟩
      refine ⟨_, rfl, d, rfl, tb.isD, _, rfl, t, _, _, .ref pa, rfl, rfl, in3 h1, atI_nat (j := 0) rfl, Nat.zero_le _, fun z nz => ?_⟩
      obtain ⟨o, l, hg1, hg2, ys, hl1, hl2⟩ := dget_has tb h2 nz
      refine ⟨o, hg1, ?_⟩
      rw [hg2]
      have e2 := ex_new (o := .lst []) nz
      generalize upd H' z (.lst []) = H2 at e2 hl1 hl2 ⊢
      have hyl : ys.length = (at1 X (ps.take j)).length := Paired.length hl2
      have hal := at1_len (X := X) (ps := ps.take j)
      rw [List.length_take] at hal
      refine ⟨_, rfl, t, _, _, .ref pb, rfl, rfl, in3 (e2 _ _ h1), atI_nat (j := 1) rfl, small (by show 1 ≤ 10000000; decide), fun b1 nb1 => ?_⟩
      have e3 := ex_new (o := .lst [V.ref pb]) nb1
      refine ⟨l, b1, ys, [.ref pb], rfl, rfl, e3 _ _ hl1, upd_same, small (by show ys.length + 1 ≤ _; omega), fun r nr => ?_⟩
      have e4 := (e2.trans e3).trans (ex_new (o := .lst (ys ++ [V.ref pb])) nr)
      have hr4 : upd (upd H2 b1 (.lst [V.ref pb])) r (.lst (ys ++ [V.ref pb])) r = some (.lst (ys ++ [.ref pb])) := upd_same
      have hl4 : Paired (TupN (upd (upd H2 b1 (.lst [V.ref pb])) r (.lst (ys ++ [V.ref pb])))) ys (at1 X (ps.take j)) := L2.Paired.mapP hl2 fun _ _ z => z.tm (Tm.of (e3.trans (ex_new nr)))
      have nrH := ex_none ((e1.trans e2).trans e3) nr
      generalize upd (upd H2 b1 (.lst [V.ref pb])) r (.lst (ys ++ [V.ref pb])) = H4 at e4 hr4 hl4 ⊢
      refine ⟨_, rfl, _, rfl, t, _, _, .ref pa, rfl, rfl, in3 (e4 _ _ h1), atI_nat (j := 0) rfl, d, _, rfl, .inr ⟨kvs, keyN X, pa, e4 _ _ hd, rfl, by rw [keyN_kV]; exact e4 _ _ h2, smallT (by omega), rfl⟩, ?_⟩
      have rd : r ≠ d := fun z => by
        rw [z, e4 _ _ hd] at hr4
        cases hr4
      refine ⟨_, putK kvs (keyN X) (.ref r), rfl, ex_mut (e1.trans e4) nd, upd_same, ?_, fun Y => ?_⟩
      · have := length_putK kvs (keyN X) (.ref r)
        omega
      · rw [valV_put, tk]
        by_cases e : X = Y
        · subst e
          rw [if_pos rfl, at1_same]
          exact .inr ⟨r, rfl, ys ++ [.ref pb], by rw [upd_ne rd]; exact hr4, paired_app (L2.Paired.mapP hl4 fun _ _ z => z.tm (Tm.updD (e4 _ _ hd))) (paired_one (TupN.tm (Tm.updD (e4 _ _ hd)) ⟨pb, rfl, e4 _ _ h3⟩))⟩
        · rw [if_neg fun q => e (keyN_inj q).symm, at1_other e]
          exact (hent Y).up e4 (e4 _ _ hd)
    · obtain ⟨o2, kvs, rfl, e1, hd, hkl, hent⟩ := hP
      rw [hxl, List.take_length] at hent
      exact ⟨_, rfl, q _ d e1 ⟨kvs, hd, hent⟩⟩
def spStays : Sp := fun vs H Q _ => ∃ (a d : Addr) (k : Nat) (rows : List (List Nat)) (v : V) (p : K67M.Pos) (ps : List K67M.Pos), vs = [.ref a, nI k, v, .ref d] ∧ LOf LstN H a rows ∧ rows.length ≤ 8 ∧ PosV H v p ∧ p.1.Pairwise (· < ·) ∧ (∀ v ∈ p.1, v < rows.length) ∧ TblOk H d ps ∧ ps.length ≤ 1000000 ∧
  ∀ b H', Ex H H' → (b = true ↔ Holds rows.length k (fun q => q ∈ ps) p) → Q (.bl b) H'
theorem sc_law_stays : FnScope ["_law_near_here", "_law_k", "_law_position", "_law_parts", "_law_searched", "_law_v", "_law_rest", "_law_more", "_law_u", "_law_part"] ["_law_near_here", "_law_k", "_law_position", "_law_parts"] (defScope (top 43)) := ⟨rfl, rfl, rfl, by decide +kernel, rfl, by decide +kernel, by decide +kernel⟩
theorem cal_law_stays (T : Txt K mg C CT CB) (D : Df K mg "_law_stays" 43) (c_law_inside : Cal P w K mg base 1 "_law_inside" spInside) : Cal P w K mg base 2 "_law_stays" spStays := by
  refine cal_mk D sc_law_stays (fun _ _ _ _ _ _ us hl => match us, hl with | [_, _, _, _], _ => rfl) (fun vs H Q E h => ?_) (fun f cdv A outer s H vs Q E hr h => ?_)
  · obtain ⟨a, d, k, rows, v, p, ps, rfl, _⟩ := h
    rfl
  · obtain ⟨na, d, k, rows, v, p, ps, rfl, ⟨rv, hna, hrv⟩, hn, hpv, hsrt, hlt, htb, hpl, q⟩ := h
    have hu := hu_of hr
    have hrl : rv.length = rows.length := Paired.length hrv
    obtain ⟨X, Cc⟩ := p
    obtain ⟨t, a, b, rfl, ht, ha, hb⟩ := id hpv
    have hXl2 : X.length ≤ rows.length := rise_len hsrt hlt
    refine ⟨_, (pss_cons (ps_set (i := 4) sc_law_stays.nd rfl (.inl rfl) (pe_ix (ixTK K) (pv 2) pe_int (fun _ _ => rfl)))
      (pss_cons (ps_for PassesOwn.never rfl (pitK K (pv 4)) (pg_name (i := 5) sc_law_stays.nd rfl (.inr rfl)) (pss_cons (ps_set (i := 6) sc_law_stays.nd rfl (.inl rfl) (pe_callTy (tupK K) (by rfl) T.ztuple (by decide +kernel) (pa_cons (pe_lc (own := [("_law_u", 8)]) rfl sc_law_stays.nd (pitK K (pv 4)) (blkOk_by (N := ["_law_near_here", "_law_k", "_law_position", "_law_parts", "_law_searched", "_law_v", "_law_rest", "_law_more", "_law_u", "_law_part"]) (sc := defScope (top 43)) (by decide +kernel)) (fun _ _ _ _ _ => (pg_name (i := 8) sc_law_stays.nd rfl (by first | exact .inl rfl | exact .inr rfl))) (fun _ _ _ _ _ => (pts_one (pt_cmpR op_ne (pv 8) (pv 5) (nomark _)))) (fun _ _ _ _ _ => (pv 8))) pa_nil)))
      (pss_one (ps_if (pt_cmpR op_eq (pe_callB (lenK K) (by rfl) T.zlen PySem.boot_len (pa_cons (pe_lc (own := [("_law_part", 9)]) rfl sc_law_stays.nd (pilK K (pe_dget2 hu (pv 3) (pv 6) (pe_lst pa_nil) ⟨rfl, rfl, rfl, rfl⟩)) (blkOk_by (N := ["_law_near_here", "_law_k", "_law_position", "_law_parts", "_law_searched", "_law_v", "_law_rest", "_law_more", "_law_u", "_law_part"]) (sc := defScope (top 43)) (by decide +kernel)) (fun _ _ _ _ _ => (pg_name (i := 9) sc_law_stays.nd rfl (by first | exact .inl rfl | exact .inr rfl))) (fun _ _ _ _ _ => (pts_one (pt_val (pe_c c_law_inside hr (by decide) rfl (pa_cons (pe_ix (ixTK K) (pv 2) pe_int (fun _ _ => rfl)) (pa_cons (pv 9) pa_nil)))))) (fun _ _ _ _ _ => (pv 9))) pa_nil)) pe_int (nomark _)) (pss_one (ps_ret pe_bl)) pss_nil))))
      (pss_cons (ps_if (pt_cmpR op_eq (pe_callB (lenK K) (by rfl) T.zlen PySem.boot_len (pa_cons (pv 4) pa_nil)) (pv 1) (nomark _)) (pss_one (ps_ret pe_bl)) pss_nil)
      (pss_cons (ps_for PassesOwn.never rfl (pi_range1 rfl T.zrange (pa_cons (pe_callB (lenK K) (by rfl) T.zlen PySem.boot_len (pa_cons (pv 0) pa_nil)) pa_nil)) (pg_name (i := 5) sc_law_stays.nd rfl (.inr rfl)) (pss_one (ps_if (pt_cmpR (ninK K) (pv 5) (pv 4) (by rfl)) (pss_cons (ps_set (i := 7) sc_law_stays.nd rfl (.inl rfl) (pe_callTy (tupK K) (by rfl) T.ztuple (by decide +kernel) (pa_cons (pe_callB (srtTK K) (by rfl) T.zsorted (by decide +kernel) (pa_cons (pe_op op_catA (pv 4) (pe_tup (pa_cons (pv 5) pa_nil))) pa_nil)) pa_nil)))
      (pss_one (ps_if (pt_cmpR op_eq (pe_callB (lenK K) (by rfl) T.zlen PySem.boot_len (pa_cons (pe_lc (own := [("_law_part", 9)]) rfl sc_law_stays.nd (pilK K (pe_dget2 hu (pv 3) (pv 7) (pe_lst pa_nil) ⟨rfl, rfl, rfl, rfl⟩)) (blkOk_by (N := ["_law_near_here", "_law_k", "_law_position", "_law_parts", "_law_searched", "_law_v", "_law_rest", "_law_more", "_law_u", "_law_part"]) (sc := defScope (top 43)) (by decide +kernel)) (fun _ _ _ _ _ => (pg_name (i := 9) sc_law_stays.nd rfl (by first | exact .inl rfl | exact .inr rfl))) (fun _ _ _ _ _ => (pts_one (pt_val (pe_c c_law_inside hr (by decide) rfl (pa_cons (pv 9) (pa_cons (pe_ix (ixTK K) (pv 2) pe_int (fun _ _ => rfl)) pa_nil)))))) (fun _ _ _ _ _ => (pv 9))) pa_nil)) pe_int (nomark _)) (pss_one (ps_ret pe_bl)) pss_nil))) pss_nil)))
      (pss_one (ps_ret pe_bl)))))), ?_⟩
    refine ⟨_, rfl, t, _, _, .ref a, rfl, rfl, in3 ht, atI_nat (j := 0) rfl, ?_⟩
    refine ⟨_, rfl, a, rfl, ⟨_, in3 ha⟩, ?_⟩
    refine for_tup (xs := nL X) (fun j σ' H' => ∃ o5 o6 : Option V, σ' = [some (.ref na), some (nI k), some (.ref t), some (.ref d), some (.ref a), o5, o6, none, none, none] ∧ Ex H H' ∧ ∀ v ∈ X.take j, In1 ps X Cc v)
      ⟨none, none, rfl, .refl H, fun v h => absurd h (by simp)⟩ (fun j σ' H' _ hP => ?_) (fun j x σ' H' hx hP => ?_) (fun σ' H' hP => ?_)
    · obtain ⟨_, _, _, e2, _⟩ := hP
      exact in3 (e2 _ _ ha)
    · obtain ⟨o5, o6, rfl, e1, hdone⟩ := hP
      obtain ⟨y, hy, rfl⟩ := nL_get hx
      have hyX : y ∈ X := List.mem_of_getElem? hy
      have tk : X.take (j + 1) = X.take j ++ [y] := by
        rw [List.take_add_one, hy]
        rfl
      refine ⟨_, rfl, a, rfl, ⟨_, in3 (e1 _ _ ha)⟩, fun D nD => lc_tmT (R := fun v n => v = nI n) (f := fun u => !decide (u = y)) (g := id) (S := fun _ v n => v = nI n) (fun _ _ _ _ _ h => h) (in3 (e1 _ _ ha)) (nL_paired X) nD (by rw [nL_len]; show X.length ≤ _; omega) (fun _ => rfl) (fun x u hx hu' hxu => ?_) fun H2 ys e2 hD2 hys => ?_⟩
      · subst hxu
        refine ⟨fun H3 e3 Q' q' => ?_, fun _ H3 e3 Q' q' => ?_⟩
        · refine ⟨_, rfl, _, rfl, rfl, !decide (u = y), ?_, q' H3 (.refl H3)⟩
          have : decide (nI u = nI y) = decide (u = y) := by
            rw [Bool.eq_iff_iff, decide_eq_true_eq, decide_eq_true_eq]
            exact ⟨fun e => by have := V.int.inj e; omega, fun e => by rw [e]⟩
          rw [this]
        · exact ⟨_, rfl, q' _ H3 (.refl H3) rfl⟩
      · rw [List.map_id] at hys
        have hys' : ys = nL (del y X) := paired_nL hys
        subst hys'
        have e12 := e1.trans e2
        refine ⟨D, _, rfl, .inl ⟨in2 hD2, fun fw nfw => ?_⟩⟩
        have e5 := e12.trans (ex_new (o := .tup (nL (del y X))) nfw)
        have hfw : upd H2 fw (.tup (nL (del y X))) fw = some (.tup (nL (del y X))) := upd_same
        generalize upd H2 fw (.tup (nL (del y X))) = H5 at e5 hfw ⊢
        refine ⟨_, rfl, d, rfl, (htb.ex e5).isD, _, rfl, Nat.zero_le _, fun z nz => ?_⟩
        obtain ⟨o, l, hg1, hg2, xs, hl1, hl2⟩ := dget_has (htb.ex e5) hfw nz
        refine ⟨o, hg1, ?_⟩
        rw [hg2]
        have e6 := e5.trans (ex_new (o := .lst []) nz)
        generalize upd H5 z (.lst []) = H6 at e6 hl1 hl2 ⊢
        have hxl : xs.length = (at1 (del y X) ps).length := Paired.length hl2
        have hal := at1_len (X := del y X) (ps := ps)
        refine ⟨l, rfl, ⟨_, in2 hl1⟩, fun D4 nD4 => lc_tm (S := TupN) (R := TupN H6) (f := fun D => decide (∀ u ∈ Cc, u ∈ D)) (g := id) (fun _ _ _ _ e h => h.tm e) (in2 hl1) hl2 nD4 (by omega) (fun _ => rfl) (fun x Dd hx hDd hxD => ?_) fun H8 zs e8 hD8 hzs => ?_⟩
        · refine ⟨fun H7 e7 Q' q' => ?_, fun _ H7 e7 Q' q' => ⟨_, rfl, q' _ H7 (.refl H7) (hxD.tm (Tm.of e7))⟩⟩
          exact ⟨_, rfl, t, _, _, .ref b, rfl, rfl, in3 ((e6.trans e7) _ _ ht), atI_nat (j := 1) rfl, _, rfl, _, _, Cc, Dd, rfl, ⟨b, rfl, (e6.trans e7) _ _ hb⟩, hxD.tm (Tm.of e7), _, rfl, q' H7 (.refl H7)⟩
        · rw [List.map_id] at hzs
          have e68 := e6.trans e8
          have hzl : zs.length = _ := Paired.length hzs
          have key : In1 ps X Cc y ↔ ∃ Dd, Dd ∈ (at1 (del y X) ps).filter fun D => decide (∀ u ∈ Cc, u ∈ D) := by
            constructor
            · rintro ⟨Dd, h1, h2⟩
              exact ⟨Dd, List.mem_filter.mpr ⟨mem_at1.mpr h1, decide_eq_true h2⟩⟩
            · rintro ⟨Dd, h⟩
              obtain ⟨h1, h2⟩ := List.mem_filter.mp h
              exact ⟨Dd, mem_at1.mp h1, of_decide_eq_true h2⟩
          refine ⟨D4, _, rfl, .inl (in2 hD8), rfl, _, rfl, ?_⟩
          refine ite2 (fun c4 => ?_) (fun c4 => ?_)
          · have hz0 : zs.length = 0 := by
              have : (zs.length : Int) = 0 := V.int.inj (of_decide_eq_true c4)
              omega
            refine q false _ e68 ⟨fun h => (by cases h), fun h => ?_⟩
            obtain ⟨Dd, hm⟩ := key.mp (h.1 y hyX)
            rw [hz0] at hzl
            rw [List.eq_nil_of_length_eq_zero hzl.symm] at hm
            cases hm
          · have hz0 : zs.length ≠ 0 := fun z => c4 (decide_eq_true (by rw [z]; rfl))
            refine ⟨_, _, rfl, e68, fun v hv => ?_⟩
            rw [tk] at hv
            rcases List.mem_append.mp hv with hv | hv
            · exact hdone v hv
            · rw [List.mem_singleton.mp hv]
              refine key.mpr ?_
              obtain ⟨Dd, tl, e⟩ := List.exists_cons_of_ne_nil (l := (at1 (del y X) ps).filter fun D => decide (∀ u ∈ Cc, u ∈ D)) fun z => hz0 (by rw [hzl, z]; rfl)
              exact ⟨Dd, by rw [e]; exact List.mem_cons_self⟩
    · obtain ⟨o5, o6, rfl, e1, hdone⟩ := hP
      rw [nL_len, List.take_length] at hdone
      refine ⟨_, rfl, a, _, rfl, .inr (in3 (e1 _ _ ha)), _, rfl, rfl, _, rfl, ?_⟩
      refine ite2 (fun c1 => ?_) (fun c1 => ?_)
      · have c2 : X.length = k := by
          have : ((nL X).length : Int) = (k : Int) := V.int.inj (of_decide_eq_true c1)
          rw [nL_len] at this
          omega
        exact q true _ e1 ⟨fun _ => holds_iff.mpr ⟨hdone, .inl c2⟩, fun _ => rfl⟩
      · have c2 : X.length ≠ k := fun z => c1 (decide_eq_true (by rw [nL_len, z]; rfl))
        refine ⟨_, rfl, na, _, rfl, .inl (in2 (e1 _ _ hna)), _, rfl, by omega, by omega, ?_⟩
        rw [show ((rv.length : Nat) : Int).toNat = rows.length by omega]
        refine for_range (fun i σ' H' => ∃ o5 o6 o7 : Option V, σ' = [some (.ref na), some (nI k), some (.ref t), some (.ref d), some (.ref a), o5, o6, o7, none, none] ∧ Ex H H' ∧ ∀ v, v < i → v ∉ X → In2 ps X Cc v)
          ⟨o5, o6, none, rfl, e1, fun v h => absurd h (Nat.not_lt_zero _)⟩ (fun i σ' H' hi hP => ?_) (fun σ' H' hP => ?_)
        · obtain ⟨o5, o6, o7, rfl, e1, hd2⟩ := hP
          refine ⟨_, rfl, _, rfl, a, _, rfl, .inr (in3 (e1 _ _ ha)), rfl, nL_flat _, _, rfl, ?_⟩
          rw [show (V.int (0 + (i : Int))) = nI i by unfold nI; rw [Int.zero_add], inV_nL]
          refine ite2 (fun c3 => ?_) (fun c3 => ?_)
          · have hiX : i ∉ X := by simpa using c3
            refine ⟨_, rfl, _, rfl, small (by show 1 ≤ 10000000; decide), fun b1 nb1 => ?_⟩
            have e2 := e1.trans (ex_new (o := .tup [nI i]) nb1)
            refine catA_read (e2 _ _ ha) upd_same (by simp) (by rw [nL_len]; show X.length + 1 ≤ _; omega) fun c H2 e23 hc => ?_
            have e3 := e2.trans e23
            have hc' : H2 c = some (.tup (((X ++ [i]).map fun n : Nat => (n : Int)).map V.int)) := by
              rw [hc, ← nL_int, nL_app]
              rfl
            refine ⟨c, _, rfl, in3 hc', fun ms sp hpm hsd nsp => ?_⟩
            have hms : ms.map V.int = nL (ins i X) := sorted_nat hpm hsd
            rw [hms]
            refine ⟨sp, _, rfl, .inl ⟨in2 upd_same, fun mo nmo => ?_⟩⟩
            have e4 := (e3.trans (ex_new nsp)).trans (ex_new (o := .tup (nL (ins i X))) nmo)
            have hmo : upd (upd H2 sp (.lst (nL (ins i X)))) mo (.tup (nL (ins i X))) mo = some (.tup (nL (ins i X))) := upd_same
            generalize upd (upd H2 sp (.lst (nL (ins i X)))) mo (.tup (nL (ins i X))) = H4 at e4 hmo ⊢
            refine ⟨_, rfl, d, rfl, (htb.ex e4).isD, _, rfl, Nat.zero_le _, fun z nz => ?_⟩
            obtain ⟨o, l, hg1, hg2, xs, hl1, hl2⟩ := dget_has (htb.ex e4) hmo nz
            refine ⟨o, hg1, ?_⟩
            rw [hg2]
            have e6 := e4.trans (ex_new (o := .lst []) nz)
            generalize upd H4 z (.lst []) = H6 at e6 hl1 hl2 ⊢
            have hxl : xs.length = (at1 (ins i X) ps).length := Paired.length hl2
            have hal := at1_len (X := ins i X) (ps := ps)
            refine ⟨l, rfl, ⟨_, in2 hl1⟩, fun D4 nD4 => lc_tm (S := TupN) (R := TupN H6) (f := fun D => decide (∀ u ∈ D, u ∈ Cc)) (g := id) (fun _ _ _ _ e h => h.tm e) (in2 hl1) hl2 nD4 (by omega) (fun _ => rfl) (fun x Dd hx hDd hxD => ?_) fun H8 zs e8 hD8 hzs => ?_⟩
            · refine ⟨fun H7 e7 Q' q' => ?_, fun _ H7 e7 Q' q' => ⟨_, rfl, q' _ H7 (.refl H7) (hxD.tm (Tm.of e7))⟩⟩
              exact ⟨_, rfl, _, rfl, t, _, _, .ref b, rfl, rfl, in3 ((e6.trans e7) _ _ ht), atI_nat (j := 1) rfl, _, _, Dd, Cc, rfl, hxD.tm (Tm.of e7), ⟨b, rfl, (e6.trans e7) _ _ hb⟩, _, rfl, q' H7 (.refl H7)⟩
            · rw [List.map_id] at hzs
              have e68 := e6.trans e8
              have hzl : zs.length = _ := Paired.length hzs
              have key : In2 ps X Cc i ↔ ∃ Dd, Dd ∈ (at1 (ins i X) ps).filter fun D => decide (∀ u ∈ D, u ∈ Cc) := by
                constructor
                · rintro ⟨Dd, h1, h2⟩
                  exact ⟨Dd, List.mem_filter.mpr ⟨mem_at1.mpr h1, decide_eq_true h2⟩⟩
                · rintro ⟨Dd, h⟩
                  obtain ⟨h1, h2⟩ := List.mem_filter.mp h
                  exact ⟨Dd, mem_at1.mp h1, of_decide_eq_true h2⟩
              refine ⟨D4, _, rfl, .inl (in2 hD8), rfl, _, rfl, ?_⟩
              refine ite2 (fun c4 => ?_) (fun c4 => ?_)
              · have hz0 : zs.length = 0 := by
                  have : (zs.length : Int) = 0 := V.int.inj (of_decide_eq_true c4)
                  omega
                refine q false _ e68 ⟨fun h => (by cases h), fun h => ?_⟩
                rcases h.2 with h2 | h2
                · exact absurd h2 c2
                · obtain ⟨Dd, hm⟩ := key.mp (h2 i hi hiX)
                  rw [hz0] at hzl
                  rw [List.eq_nil_of_length_eq_zero hzl.symm] at hm
                  cases hm
              · have hz0 : zs.length ≠ 0 := fun z => c4 (decide_eq_true (by rw [z]; rfl))
                refine ⟨_, _, _, rfl, e68, fun v hv hvX => ?_⟩
                by_cases ev : v < i
                · exact hd2 v ev hvX
                · have ev : v = i := by omega
                  subst ev
                  refine key.mpr ?_
                  obtain ⟨Dd, tl, e⟩ := List.exists_cons_of_ne_nil (l := (at1 (ins v X) ps).filter fun D => decide (∀ u ∈ D, u ∈ Cc)) fun z => hz0 (by rw [hzl, z]; rfl)
                  exact ⟨Dd, by rw [e]; exact List.mem_cons_self⟩
          · have hiX : i ∈ X := by simpa using c3
            refine ⟨_, _, _, rfl, e1, fun v hv hvX => ?_⟩
            by_cases ev : v < i
            · exact hd2 v ev hvX
            · have ev : v = i := by omega
              rw [ev] at hvX
              exact absurd hiX hvX
        · obtain ⟨o5, o6, o7, rfl, e1, hd2⟩ := hP
          exact q true _ e1 ⟨fun _ => holds_iff.mpr ⟨hdone, .inr hd2⟩, fun _ => rfl⟩
end
end K67
set_option Elab.async false
set_option linter.all false
set_option maxRecDepth 100000
set_option maxHeartbeats 2000000
namespace K67
open PySem PySem.Spec PyProof.Rows L2
open K67M (Gr comp IsPos Holds Gf Ok Reach srt ins del Via qs El)
section
variable {P : Program} {w : World} {K : PySem.W.Frag} {mg : Str → Option Value} {base : Heap} {C CT CB : Addr}
def spLGreat : Sp := fun vs H Q _ => ∃ (a : Addr) (k : Nat) (rows : List (List Nat)), vs = [.ref a, nI k] ∧ LOf LstN H a rows ∧ Ok rows.length (gr rows) ∧ RowsNd rows ∧ rows.length ≤ 8 ∧ k ≤ 7 ∧
  ∀ H' p qs, Ex H H' → H p = none → LOf PosV H' p qs → Sor qs → (∀ p, p ∈ qs ↔ Gf (gr rows) rows.length k p) → qs.length ≤ 1000000 → Q (.ref p) H'
theorem sc_law_greatest : FnScope ["_law_near_here", "_law_k", "_law_positions_here", "_law_turn", "_law_parts", "_law_left", "_law_position"] ["_law_near_here", "_law_k"] (defScope (top 45)) := ⟨rfl, rfl, rfl, by decide +kernel, rfl, by decide +kernel, by decide +kernel⟩
theorem cal_law_greatest (T : Txt K mg C CT CB) (D : Df K mg "_law_greatest" 45) (c_law_positions : Cal P w K mg base 2 "_law_positions" spLPos) (c_law_by_searched : Cal P w K mg base 1 "_law_by_searched" spTable) (c_law_stays : Cal P w K mg base 2 "_law_stays" spStays) : Cal P w K mg base 3 "_law_greatest" spLGreat := by
  refine cal_mk D sc_law_greatest (fun _ _ _ _ _ _ us hl => match us, hl with | [_, _], _ => rfl) (fun vs H Q E h => ?_) (fun f cdv A outer s H vs Q E hr h => ?_)
  · obtain ⟨a, k, rows, rfl, _⟩ := h
    rfl
  · obtain ⟨a, k, rows, rfl, hLa, ok, hnd, hn, hk, q⟩ := h
    refine ⟨_, (pss_cons (ps_set (i := 2) sc_law_greatest.nd rfl (.inl rfl) (pe_c c_law_positions hr (by decide) rfl (pa_cons (pv 0) (pa_cons (pv 1) pa_nil))))
      (pss_cons (ps_for PassesOwn.never rfl (pi_range1 rfl T.zrange (pa_cons (pe_op op_add (pe_callB (lenK K) (by rfl) T.zlen PySem.boot_len (pa_cons (pv 2) pa_nil)) pe_int) pa_nil)) (pg_name (i := 3) sc_law_greatest.nd rfl (.inl rfl)) (pss_cons (ps_set (i := 4) sc_law_greatest.nd rfl (.inr rfl) (pe_c c_law_by_searched hr (by decide) rfl (pa_cons (pv 2) pa_nil)))
      (pss_cons (ps_setLc (i := 5) (own := [("_law_position", 6)]) rfl sc_law_greatest.nd rfl rfl (sw_true rfl rfl rfl (by decide +kernel)) (pilK K (pv 2)) (blkOk_by (N := ["_law_near_here", "_law_k", "_law_positions_here", "_law_turn", "_law_parts", "_law_left", "_law_position"]) (sc := defScope (top 45)) (by decide +kernel)) (fun _ _ _ _ _ => (pg_name (i := 6) sc_law_greatest.nd rfl (by first | exact .inl rfl | exact .inr rfl))) (fun _ _ _ _ _ => (pts_one (pt_val (pe_c c_law_stays hr (by decide) rfl (pa_cons (pv 0) (pa_cons (pv 1) (pa_cons (pv 6) (pa_cons (pv 4) pa_nil)))))))) (fun _ _ _ _ _ => (pv 6)))
      (pss_cons (ps_if (pt_cmpR op_eq (pe_callB (lenK K) (by rfl) T.zlen PySem.boot_len (pa_cons (pv 5) pa_nil)) (pe_callB (lenK K) (by rfl) T.zlen PySem.boot_len (pa_cons (pv 2) pa_nil)) (nomark _)) (pss_one (ps_ret (pe_callB (cr_sortD encP) (by rfl) T.zsorted (by decide +kernel) (pa_cons (pv 2) pa_nil)))) pss_nil)
      (pss_one (ps_set (i := 2) sc_law_greatest.nd rfl (.inl rfl) (pv 5)))))))
      (pss_one (ps_ret (pe_lst pa_nil))))), ?_⟩
    refine ⟨_, rfl, _, rfl, a, k, rows, rfl, hLa, ok, hnd, hn, hk, fun H1 P0 ps0 e1 nP hLp hap hpl0 => ?_⟩
    obtain ⟨xs0, hP0, hxs0⟩ := id hLp
    have hxl0 : xs0.length = ps0.length := Paired.length hxs0
    refine ⟨_, rfl, P0, _, rfl, .inl (in2 hP0), _, _, rfl, rfl, _, rfl, by omega, by omega, ?_⟩
    rw [show ((xs0.length : Int) + 1).toNat = ps0.length + 1 by omega]
    refine for_range (fun j σ' H' => ∃ (o3 o4 o5 : Option V) (Pa : Addr) (ps : List K67M.Pos), σ' = [some (.ref a), some (nI k), some (.ref Pa), o3, o4, o5, none] ∧ Ex H H' ∧ LOf PosV H' Pa ps ∧ ps.Nodup ∧ (∀ p ∈ ps, IsPos (gr rows) rows.length k p) ∧ (∀ p, Gf (gr rows) rows.length k p → p ∈ ps) ∧ ps.length + j ≤ ps0.length)
      ⟨none, none, none, P0, ps0, rfl, e1, hLp, hap.1, fun p hp => (hap.2 p).mp hp, fun p hp => (hap.2 p).mpr (gf_pos hp).1, Nat.le_refl _⟩ (fun j σ' H' hj hP => ?_) (fun σ' H' hP => ?_)
    · obtain ⟨o3, o4, o5, Pa, ps, rfl, e2, hLPa, pnd, hmem, hgf, hpj⟩ := hP
      obtain ⟨xs, hPa, hxs⟩ := id hLPa
      have hxl : xs.length = ps.length := Paired.length hxs
      refine ⟨_, rfl, Pa, ps, rfl, hLPa, by omega, fun H3 d e3 tb => ?_⟩
      have e23 := e2.trans e3
      refine ⟨_, rfl, Pa, rfl, ⟨_, in2 (e3 _ _ hPa)⟩, fun D nD => lc_tm (S := PosV) (R := PosV H3) (f := fun p => @decide (Holds rows.length k (fun q => q ∈ ps) p) (Classical.propDecidable _)) (g := id) (fun _ _ _ _ e h => h.tm e) (in2 (e3 _ _ hPa)) (L2.Paired.mapP hxs fun _ _ z => z.tm (Tm.of e3)) nD (by omega) (fun _ => rfl) (fun x p hx hp hxp => ?_) fun H4 ys e4 hD hys => ?_⟩
      · refine ⟨fun H4 e4 Q' q' => ?_, fun _ H4 e4 Q' q' => ⟨_, rfl, q' _ H4 (.refl H4) (hxp.tm (Tm.of e4))⟩⟩
        refine ⟨_, rfl, _, rfl, _, rfl, _, rfl, a, d, k, rows, x, p, ps, rfl, hLa.ex (fun e z => z.ex e) (e23.trans e4), hn, hxp.tm (Tm.of e4), (hmem p hp).srt, (hmem p hp).lt, tb.ex e4, by omega, fun b H5 e5 hb => ⟨b, rfl, ?_⟩⟩
        have : b = @decide (Holds rows.length k (fun q => q ∈ ps) p) (Classical.propDecidable _) := by
          rw [Bool.eq_iff_iff, hb]
          exact ⟨fun z => @decide_eq_true _ (Classical.propDecidable _) z, fun z => @of_decide_eq_true _ (Classical.propDecidable _) z⟩
        rw [this]
        exact q' H5 e5
      · rw [List.map_id] at hys
        have hyl : ys.length = _ := Paired.length hys
        have e24 := e23.trans e4
        have hle := List.length_filter_le (fun p => @decide (Holds rows.length k (fun q => q ∈ ps) p) (Classical.propDecidable _)) ps
        have hPa4 := (e3.trans e4) _ _ hPa
        refine ⟨_, rfl, D, _, rfl, .inl (in2 hD), _, rfl, Pa, _, rfl, .inl (in2 hPa4), rfl, _, rfl, ?_⟩
        refine ite2 (fun c1 => ?_) (fun c1 => ?_)
        · have hlen : ys.length = xs.length := by
            have : (ys.length : Int) = (xs.length : Int) := V.int.inj (of_decide_eq_true c1)
            omega
          have heq : (ps.filter fun p => @decide (Holds rows.length k (fun q => q ∈ ps) p) (Classical.propDecidable _)) = ps := List.filter_sublist.eq_of_length (by omega)
          have hh : ∀ p ∈ ps, Holds rows.length k (fun q => q ∈ ps) p := fun p hp => by
            rw [← heq] at hp
            exact @of_decide_eq_true _ (Classical.propDecidable _) (List.mem_filter.mp hp).2
          refine ⟨_, rfl, ?_⟩
          refine sortP_read hr.units hPa4 (L2.Paired.mapP hxs fun _ _ z => z.tm (Tm.of (e3.trans e4))) fun zs p4 hzs np4 => ?_
          refine q _ p4 _ (e24.trans (ex_new np4)) (ex_none e24 np4) ⟨zs, upd_same, L2.Paired.mapP hzs fun _ _ z => z.tm (Tm.of (ex_new np4))⟩ (Sor.psort pnd) (fun p => ?_) ?_
          · rw [(psort_perm ps).mem_iff]
            exact ⟨fun hp => ⟨fun q => q ∈ ps, fun p hp => ⟨hmem p hp, hh p hp⟩, hp⟩, hgf p⟩
          · rw [(psort_perm ps).length_eq]
            omega
        · have hlen : ys.length ≠ xs.length := fun z => c1 (decide_eq_true (by rw [z]))
          refine ⟨_, rfl, _, _, _, D, ps.filter fun p => @decide (Holds rows.length k (fun q => q ∈ ps) p) (Classical.propDecidable _), rfl, e24, ⟨ys, hD, hys⟩, pnd.filter _, fun p hp => hmem p (List.mem_filter.mp hp).1, fun p hp => ?_, by omega⟩
          rw [List.mem_filter]
          exact ⟨hgf p hp, @decide_eq_true _ (Classical.propDecidable _) ((gf_pos hp).2.mono hgf)⟩
    · obtain ⟨o3, o4, o5, Pa, ps, rfl, e2, hLPa, pnd, hmem, hgf, hpj⟩ := hP
      omega
/-! ### _law_later -/
theorem bit_int (S v : Nat) : decide (V.int (Builtin.bitAnd ((S : Int) / 2 ^ (v : Int).toNat) 1) = V.int 1) = S.testBit v := by
  have h1 : (S : Int) / 2 ^ (v : Int).toNat = ((S / 2 ^ v : Nat) : Int) := by
    rw [Int.toNat_natCast, Int.natCast_ediv, Int.natCast_pow]
    rfl
  have h2 : Builtin.bitAnd ((S / 2 ^ v : Nat) : Int) 1 = ((S / 2 ^ v % 2 : Nat) : Int) := by
    have h3 : ∀ x : Nat, Builtin.bitAnd (x : Int) 1 = ((x &&& 1 : Nat) : Int) := fun x => by
      unfold Builtin.bitAnd
      rw [decide_eq_true (Int.natCast_nonneg x), decide_eq_true (by decide : (0 : Int) ≤ 1)]
      rfl
    rw [h3, Nat.and_one_is_mod]
  rw [h1, h2, Nat.testBit_eq_decide_div_mod_eq, Bool.eq_iff_iff, decide_eq_true_eq, decide_eq_true_eq]
  constructor
  · intro z
    have := V.int.inj z
    omega
  · intro z
    rw [z]
    rfl
structure Lat (G : Gr) (n S v : Nat) (l m : List Nat) (at_ : Nat) : Prop where
  nl : l.Nodup
  nm : m.Nodup
  hd : v ∈ l
  il : ∀ u ∈ l, u = v ∨ (Via G S v u ∧ S.testBit u = true)
  im : ∀ u ∈ m, Via G S v u ∧ S.testBit u = false ∧ u ≠ v
  cl : ∀ (i u : Nat), i < at_ → l[i]? = some u → ∀ w, G u w = true → w ∈ l ∨ w ∈ m
section
variable {G : Gr} {n S v a u : Nat} {l m : List Nat}
theorem Via.lt (o : Ok n G) {u : Nat} (h : Via G S v u) : u < n := by
  induction h with
  | nb g => exact (o.lt g).2
  | step _ _ g _ => exact (o.lt g).2
theorem Lat.start : Lat G n S v [v] [] 0 := ⟨by simp, List.nodup_nil, by simp, fun u h => .inl (List.mem_singleton.mp h), fun u h => absurd h (by simp), fun i u h => absurd h (Nat.not_lt_zero _)⟩
theorem Lat.len (o : Ok n G) (hv : v < n) (h : Lat G n S v l m a) : l.length ≤ n ∧ m.length ≤ n := by
  have h1 := K67M.nodup_sub h.nl (m := List.range n) fun x hx => List.mem_range.mpr ((h.il x hx).elim (fun z => z ▸ hv) fun z => Via.lt o z.1)
  have h2 := K67M.nodup_sub h.nm (m := List.range n) fun x hx => List.mem_range.mpr (Via.lt o (h.im x hx).1)
  rw [List.length_range] at h1 h2
  exact ⟨h1, h2⟩
theorem Lat.via (h : Lat G n S v l m a) {x : Nat} (hx : x ∈ l) (g : G x u = true) : Via G S v u := by
  rcases h.il x hx with z | z
  · subst z
    exact .nb g
  · exact .step z.1 z.2 g
theorem Lat.addL (h : Lat G n S v l m a) {x : Nat} (hx : l[a]? = some x) (g : G x u = true) (hu : S.testBit u = true) (nl : u ∉ l) : Lat G n S v (l ++ [u]) m a := by
  have ha : a < l.length := (List.getElem?_eq_some_iff.mp hx).1
  refine ⟨?_, h.nm, List.mem_append_left _ h.hd, fun y hy => ?_, h.im, fun i y hi hy w gw => ?_⟩
  · rw [List.nodup_append]
    refine ⟨h.nl, by simp, fun x hx y hy e => ?_⟩
    rw [List.mem_singleton] at hy
    subst hy
    subst e
    exact nl hx
  · rcases List.mem_append.mp hy with z | z
    · exact h.il y z
    · rw [List.mem_singleton.mp z]
      exact .inr ⟨h.via (List.mem_of_getElem? hx) g, hu⟩
  · rw [List.getElem?_append_left (by omega)] at hy
    exact (h.cl i y hi hy w gw).imp (List.mem_append_left _) id
theorem Lat.addM (h : Lat G n S v l m a) {x : Nat} (hx : l[a]? = some x) (g : G x u = true) (hu : S.testBit u = false) (nl : u ∉ l) (nm : u ∉ m) : Lat G n S v l (m ++ [u]) a := by
  refine ⟨h.nl, ?_, h.hd, h.il, fun y hy => ?_, fun i y hi hy w gw => (h.cl i y hi hy w gw).imp id (List.mem_append_left _)⟩
  · rw [List.nodup_append]
    refine ⟨h.nm, by simp, fun x hx y hy e => ?_⟩
    rw [List.mem_singleton] at hy
    subst hy
    subst e
    exact nm hx
  · rcases List.mem_append.mp hy with z | z
    · exact h.im y z
    · rw [List.mem_singleton.mp z]
      exact ⟨h.via (List.mem_of_getElem? hx) g, hu, fun e => nl (e ▸ h.hd)⟩
theorem Lat.next (h : Lat G n S v l m a) {x : Nat} (hx : l[a]? = some x) (hd : ∀ w, G x w = true → w ∈ l ∨ w ∈ m) : Lat G n S v l m (a + 1) :=
  ⟨h.nl, h.nm, h.hd, h.il, h.im, fun i y hi hy => by
    by_cases e : i = a
    · subst e
      rw [hx] at hy
      cases hy
      exact hd
    · exact h.cl i y (by omega) hy⟩
theorem Lat.done (o : Ok n G) (h : Lat G n S v l m a) (hl : l.length ≤ a) : m.length = (qs G n S v).length := by
  have cl : ∀ u ∈ l, ∀ w, G u w = true → w ∈ l ∨ w ∈ m := fun u hu w gw => by
    obtain ⟨i, hi, e⟩ := List.mem_iff_getElem.mp hu
    exact h.cl i u (by omega) (by rw [List.getElem?_eq_getElem hi, e]) w gw
  have all : ∀ u, Via G S v u → u ∈ l ∨ u ∈ m := fun u hu => by
    induction hu with
    | nb g => exact cl v h.hd _ g
    | step q hb g ih =>
      rcases ih with z | z
      · exact cl _ z _ g
      · rw [(h.im _ z).2.1] at hb
        cases hb
  have hp : m.Perm (qs G n S v) := by
    refine perm_of_mem h.nm ?_ fun u => ?_
    · unfold qs
      exact List.nodup_range.filter _
    · rw [K67M.mem_qs]
      constructor
      · intro hu
        have := h.im u hu
        exact ⟨Via.lt o this.1, this⟩
      · rintro ⟨_, h1, h2, h3⟩
        rcases all u h1 with z | z
        · rcases h.il u z with y | y
          · exact absurd y h3
          · rw [y.2] at h2
            cases h2
        · exact z
  exact hp.length_eq
end
def spLater : Sp := fun vs H Q _ => ∃ (a : Addr) (S v : Nat) (rows : List (List Nat)), vs = [.ref a, nI S, nI v] ∧ LOf LstN H a rows ∧ Ok rows.length (gr rows) ∧ rows.length ≤ 40 ∧ v < rows.length ∧
  ∀ H', Ex H H' → Q (nI (qs (gr rows) rows.length S v).length) H'
theorem sc_law_later : FnScope ["_law_near_here", "_law_taken", "_law_v", "_law_found", "_law_later_here", "_law_at", "_law_u"] ["_law_near_here", "_law_taken", "_law_v"] (defScope (top 46)) := ⟨rfl, rfl, rfl, by decide +kernel, rfl, by decide +kernel, by decide +kernel⟩
theorem cal_law_later (T : Txt K mg C CT CB) (D : Df K mg "_law_later" 46) : Cal P w K mg base 1 "_law_later" spLater := by
  refine cal_mk D sc_law_later (fun _ _ _ _ _ _ us hl => match us, hl with | [_, _, _], _ => rfl) (fun vs H Q E h => ?_) (fun f cdv A outer s H vs Q E hr h => ?_)
  · obtain ⟨a, S, v, rows, rfl, _⟩ := h
    rfl
  · obtain ⟨a, S, v, rows, rfl, ⟨rv, ha, hrv⟩, ok, hn, hv, q⟩ := h
    have hrl : rv.length = rows.length := Paired.length hrv
    refine ⟨_, (pss_cons (ps_set (i := 3) sc_law_later.nd rfl (.inl rfl) (pe_lst (pa_cons (pv 2) pa_nil)))
      (pss_cons (ps_set (i := 4) sc_law_later.nd rfl (.inl rfl) (pe_lst pa_nil))
      (pss_cons (ps_for PassesOwn.never rfl (pi_range1 rfl T.zrange (pa_cons (pe_callB (lenK K) (by rfl) T.zlen PySem.boot_len (pa_cons (pv 0) pa_nil)) pa_nil)) (pg_name (i := 5) sc_law_later.nd rfl (.inl rfl)) (pss_one (ps_if (pt_cmpR op_lt (pv 5) (pe_callB (lenK K) (by rfl) T.zlen PySem.boot_len (pa_cons (pv 3) pa_nil)) (nomark _)) (pss_one (ps_for PassesOwn.never rfl (pilK K (pe_ix (ixLK K) (pv 0) (pe_ix (ixLK K) (pv 3) (pv 5) (fun _ _ => rfl)) (fun _ _ => rfl))) (pg_name (i := 6) sc_law_later.nd rfl (.inl rfl)) (pss_one (ps_if (PW.pt (pw_and (pt_cmpR (ninK K) (pv 6) (pv 3) (by rfl)) (pw_and1 (pt_cmpR (ninK K) (pv 6) (pv 4) (by rfl))))) (pss_one (ps_if (pt_cmpR op_eq (pe_op op_and (pe_op op_shr (pv 1) (pv 6)) pe_int) pe_int (nomark _)) (pss_one (ps_expr (pe_bm PySem.F.plainAttrs_list PySem.F.slot_list_append PySem.F.type_list_append mt_append (pv 3) (pa_cons (pv 6) pa_nil)))) (pss_one (ps_expr (pe_bm PySem.F.plainAttrs_list PySem.F.slot_list_append PySem.F.type_list_append mt_append (pv 4) (pa_cons (pv 6) pa_nil)))))) pss_nil)))) pss_nil)))
      (pss_one (ps_ret (pe_callB (lenK K) (by rfl) T.zlen PySem.boot_len (pa_cons (pv 4) pa_nil))))))), ?_⟩
    refine ⟨_, rfl, small (by show 1 ≤ 10000000; decide), fun L nL0 => ⟨Nat.zero_le _, fun M nM => ?_⟩⟩
    have e0 := (ex_new (o := .lst [nI v]) nL0).trans (ex_new (o := .lst []) nM)
    have LM : L ≠ M := fun z => by
      rw [← z, upd_same] at nM
      cases nM
    have nMH := ex_none (ex_new nL0) nM
    refine ⟨_, rfl, a, _, rfl, .inl (in2 (e0 _ _ ha)), _, rfl, by omega, by omega, ?_⟩
    rw [show ((rv.length : Nat) : Int).toNat = rows.length by omega]
    refine for_range (fun j σ' H' => ∃ (o5 o6 : Option V) (l m : List Nat), σ' = [some (.ref a), some (nI S), some (nI v), some (.ref L), some (.ref M), o5, o6] ∧ Ex H H' ∧ H' L = some (.lst (nL l)) ∧ H' M = some (.lst (nL m)) ∧ Lat (gr rows) rows.length S v l m (min j l.length))
      ⟨none, none, [v], [], rfl, e0, by rw [upd_ne LM, upd_same]; rfl, upd_same, .start⟩ (fun j σ' H' hj hP => ?_) (fun σ' H' hP => ?_)
    · obtain ⟨o5, o6, l, m, rfl, e1, hL, hM, lt⟩ := hP
      refine ⟨_, rfl, _, rfl, L, _, rfl, .inl (in2 hL), _, _, rfl, rfl, _, rfl, ?_⟩
      rw [show (V.int (0 + (j : Int))) = nI j by unfold nI; rw [Int.zero_add]]
      refine ite2 (fun c2 => ?_) (fun c2 => ?_)
      · have hjl : j < l.length := by
          have := of_decide_eq_true c2
          rw [nL_len] at this
          omega
        have hx : l[j]? = some l[j] := List.getElem?_eq_getElem hjl
        have hxn : l[j] < rows.length := (lt.il _ (List.getElem_mem hjl)).elim (fun z => z ▸ hv) fun z => Via.lt ok z.1
        have hrow : rows[l[j]]? = some rows[l[j]] := List.getElem?_eq_getElem hxn
        obtain ⟨rr, hrr, ra, rfl, hra⟩ := paired_getR hrv hrow
        rw [Nat.min_eq_left (Nat.le_of_lt hjl)] at lt
        refine ⟨_, rfl, _, rfl, _, rfl, L, _, _, nI l[j], rfl, rfl, in2 hL, atI_nat (nL_at hx), a, _, _, .ref ra, rfl, rfl, in2 (e1 _ _ ha), atI_nat hrr, ra, rfl, ⟨_, in2 (e1 _ _ hra)⟩, ?_⟩
        refine for_list (xs := nL rows[l[j]]) (fun i σ' H' => ∃ (o6 : Option V) (l' m : List Nat), σ' = [some (.ref a), some (nI S), some (nI v), some (.ref L), some (.ref M), some (nI j), o6] ∧ Ex H H' ∧ H' L = some (.lst (nL l')) ∧ H' M = some (.lst (nL m)) ∧ Lat (gr rows) rows.length S v l' m j ∧ l'[j]? = some l[j] ∧ ∀ w ∈ rows[l[j]].take i, w ∈ l' ∨ w ∈ m)
          ⟨o6, l, m, rfl, e1, hL, hM, lt, hx, fun w h => absurd h (by simp)⟩ (fun i σ' H' _ hP => ?_) (fun i x σ' H' hxi hP => ?_) (fun σ' H' hP => ?_)
        · obtain ⟨_, _, _, _, e2, _⟩ := hP
          exact in2 (e2 _ _ hra)
        · obtain ⟨o6, l', m, rfl, e2, hL2, hM2, lt2, hx2, hdone⟩ := hP
          obtain ⟨u, hu, rfl⟩ := nL_get hxi
          have tk : rows[l[j]].take (i + 1) = rows[l[j]].take i ++ [u] := by
            rw [List.take_add_one, hu]
            rfl
          have gu : gr rows l[j] u = true := by
            rw [gr_get hrow]
            exact decide_eq_true (List.mem_of_getElem? hu)
          have hlen := lt2.len ok hv
          have stay : u ∈ l' ∨ u ∈ m → ∀ w ∈ rows[l[j]].take (i + 1), w ∈ l' ∨ w ∈ m := fun z w hw => by
            rw [tk] at hw
            rcases List.mem_append.mp hw with y | y
            · exact hdone w y
            · rw [List.mem_singleton.mp y]
              exact z
          refine ⟨_, rfl, _, rfl, L, _, rfl, .inl (in2 hL2), rfl, nL_flat _, _, rfl, ?_⟩
          show (if (!inV (nI u) (nL l')) = true then _ else _)
          rw [inV_nL]
          refine ite2 (fun c4 => ?_) (fun c4 => iteF ?_)
          · have hul : u ∉ l' := by simpa using c4
            refine ⟨_, rfl, _, rfl, M, _, rfl, .inl (in2 hM2), rfl, nL_flat _, _, rfl, ?_⟩
            show (if (!inV (nI u) (nL m)) = true then _ else _)
            rw [inV_nL]
            refine ite2 (fun c5 => ?_) (fun c5 => ?_)
            · have hum : u ∉ m := by simpa using c5
              refine ⟨_, rfl, _, rfl, _, _, rfl, rfl, by show (0 : Int) ≤ (u : Int); omega, _, _, rfl, rfl, rfl, _, rfl, ?_⟩
              rw [bit_int]
              refine ite2 (fun c6 => ?_) (fun c6 => ?_)
              · refine ⟨_, rfl, .inl ⟨rfl, _, in2 hL2⟩, _, rfl, L, _, _, rfl, rfl, hL2, by rw [nL_len]; exact smallT (by omega), ?_⟩
                refine ⟨_, l' ++ [u], m, rfl, ex_mut e2 nL0, by rw [upd_same, nL_app]; rfl, by rw [upd_ne LM.symm]; exact hM2, lt2.addL hx2 gu c6 hul, ?_, fun w hw => ?_⟩
                · rw [List.getElem?_append_left (List.getElem?_eq_some_iff.mp hx2).1]
                  exact hx2
                · rw [tk] at hw
                  rcases List.mem_append.mp hw with y | y
                  · exact (hdone w y).imp (List.mem_append_left _) id
                  · exact .inl (List.mem_append_right _ y)
              · refine ⟨_, rfl, .inl ⟨rfl, _, in2 hM2⟩, _, rfl, M, _, _, rfl, rfl, hM2, by rw [nL_len]; exact smallT (by omega), ?_⟩
                refine ⟨_, l', m ++ [u], rfl, ex_mut e2 nMH, by rw [upd_ne LM]; exact hL2, by rw [upd_same, nL_app]; rfl, lt2.addM hx2 gu (Bool.eq_false_iff.mpr c6) hul hum, hx2, fun w hw => ?_⟩
                rw [tk] at hw
                rcases List.mem_append.mp hw with y | y
                · exact (hdone w y).imp id (List.mem_append_left _)
                · exact .inr (List.mem_append_right _ y)
            · have hum : u ∈ m := by simpa using c5
              exact ⟨_, l', m, rfl, e2, hL2, hM2, lt2, hx2, stay (.inr hum)⟩
          · have hul : u ∈ l' := by simpa using c4
            exact ⟨_, l', m, rfl, e2, hL2, hM2, lt2, hx2, stay (.inl hul)⟩
        · obtain ⟨o6, l', m, rfl, e2, hL2, hM2, lt2, hx2, hdone⟩ := hP
          rw [nL_len, List.take_length] at hdone
          have hjl' := (List.getElem?_eq_some_iff.mp hx2).1
          refine ⟨_, _, l', m, rfl, e2, hL2, hM2, ?_⟩
          rw [show min (j + 1) l'.length = j + 1 by omega]
          refine lt2.next hx2 fun w gw => hdone w ?_
          rw [gr_get hrow] at gw
          exact of_decide_eq_true gw
      · have hjl : ¬ j < l.length := fun z => c2 (decide_eq_true (by rw [nL_len]; omega))
        refine ⟨_, _, l, m, rfl, e1, hL, hM, ?_⟩
        rw [show min (j + 1) l.length = min j l.length by omega]
        exact lt
    · obtain ⟨o5, o6, l, m, rfl, e1, hL, hM, lt⟩ := hP
      have hlen := lt.len ok hv
      refine ⟨_, rfl, M, _, rfl, .inl (in2 hM), ?_⟩
      rw [nL_len, lt.done ok (by omega)]
      exact q H' e1
end
end K67
set_option Elab.async false
set_option linter.all false
set_option maxRecDepth 100000
set_option maxHeartbeats 2000000
namespace K67
open PySem PySem.Spec PyProof.Rows L2
open K67M (Gr comp IsPos Holds Gf Ok Reach srt ins del Via qs El)
theorem bits_off : ∀ S, S < 256 → ∀ v, v < 8 → S.testBit v = false → S ||| 1 <<< v = S + 2 ^ v := by decide +kernel
theorem bits_on : ∀ S, S < 256 → ∀ v, v < 8 → S.testBit v = true → 2 ^ v ≤ S ∧ (S - 2 ^ v).testBit v = false ∧ (S - 2 ^ v) ||| 1 <<< v = S := by decide +kernel
theorem bits_some : ∀ S, S < 256 → S ≠ 0 → ∃ v, v < 8 ∧ S.testBit v = true := by decide +kernel
theorem two256 {n : Nat} (h : n ≤ 8) : 2 ^ n ≤ 256 := Nat.le_trans (Nat.pow_le_pow_right (by decide) h) (by decide)
section
variable {G : Gr} {n S : Nat} {c : Int}
theorem el_lt (h : El G n c S) : S < 2 ^ n := by
  induction h with
  | zero => exact Nat.two_pow_pos n
  | add _ hv _ _ ih =>
    refine Nat.or_lt_two_pow ih ?_
    rw [Nat.one_shiftLeft]
    exact Nat.pow_lt_pow_right (by decide) hv
theorem el_split (hn : n ≤ 8) (hS : S < 2 ^ n) (h0 : S ≠ 0) : El G n c S ↔ ∃ v, v < n ∧ S.testBit v = true ∧ El G n c (S - 2 ^ v) ∧ ((qs G n (S - 2 ^ v) v).length : Int) ≤ c := by
  have h256 := two256 hn
  constructor
  · intro h
    cases h with
    | zero => exact absurd rfl h0
    | add h1 hv hb hq =>
      rename_i S' v
      have hS' := el_lt h1
      have e := bits_off S' (by omega) v (by omega) hb
      refine ⟨v, hv, ?_, ?_⟩
      · rw [K67M.tb_or]
        simp
      · rw [e, Nat.add_sub_cancel]
        exact ⟨h1, hq⟩
  · rintro ⟨v, hv, hb, h1, hq⟩
    obtain ⟨e1, e2, e3⟩ := bits_on S (by omega) v (by omega) hb
    have := El.add h1 hv e2 hq
    rw [e3] at this
    exact this
end
/-- the least width at which the nodes of S can be taken first -/
def Wd (G : Gr) (n S : Nat) (x : Int) : Prop := -1 ≤ x ∧ x ≤ n ∧ ∀ c : Int, -1 ≤ c → (El G n c S ↔ x ≤ c)
def Lst (G : Gr) (n T v : Nat) (bs : List Int) (x : Int) : Prop := -1 ≤ x ∧ x ≤ n ∧ ∀ c : Int, x ≤ c ↔ ((n : Int) ≤ c ∨ ∃ u, u < v ∧ T.testBit u = true ∧ bs.getD (T - 2 ^ u) 0 ≤ c ∧ ((qs G n (T - 2 ^ u) u).length : Int) ≤ c)
section
variable {G : Gr} {n T v : Nat} {bs : List Int} {x : Int}
theorem qs_le : ((qs G n T v).length : Int) ≤ n := by
  have : (qs G n T v).length ≤ n := by
    unfold qs
    have := List.length_filter_le (fun u => @decide (Via G T v u ∧ T.testBit u = false ∧ u ≠ v) (Classical.propDecidable _)) (List.range n)
    rw [List.length_range] at this
    exact this
  omega
theorem Lst.start : Lst G n T 0 bs n := ⟨by omega, Int.le_refl _, fun c => ⟨.inl, fun z => z.elim id fun ⟨u, h, _⟩ => absurd h (Nat.not_lt_zero _)⟩⟩
theorem Lst.off (h : Lst G n T v bs x) (hb : T.testBit v = false) : Lst G n T (v + 1) bs x := ⟨h.1, h.2.1, fun c => by
  rw [h.2.2 c]
  refine ⟨fun z => z.imp id fun ⟨u, h1, h2⟩ => ⟨u, by omega, h2⟩, fun z => z.imp id fun ⟨u, h1, h2⟩ => ⟨u, ?_, h2⟩⟩
  rcases Nat.lt_or_eq_of_le (Nat.le_of_lt_succ h1) with q | q
  · exact q
  · subst q
    rw [h2.1] at hb
    cases hb⟩
theorem Lst.skip (h : Lst G n T v bs x) (hx : x ≤ bs.getD (T - 2 ^ v) 0) : Lst G n T (v + 1) bs x := ⟨h.1, h.2.1, fun c => by
  refine ⟨fun z => ((h.2.2 c).mp z).imp id fun ⟨u, h1, h2⟩ => ⟨u, by omega, h2⟩, fun z => ?_⟩
  rcases z with z | ⟨u, h1, h2, h3, h4⟩
  · exact (h.2.2 c).mpr (.inl z)
  · rcases Nat.lt_or_eq_of_le (Nat.le_of_lt_succ h1) with q | q
    · exact (h.2.2 c).mpr (.inr ⟨u, q, h2, h3, h4⟩)
    · subst q
      omega⟩
theorem Lst.take (h : Lst G n T v bs x) (hb : T.testBit v = true) (h1 : -1 ≤ bs.getD (T - 2 ^ v) 0) (h2 : bs.getD (T - 2 ^ v) 0 ≤ n) {y z : Int}
    (hy : y = if ((qs G n (T - 2 ^ v) v).length : Int) > bs.getD (T - 2 ^ v) 0 then ((qs G n (T - 2 ^ v) v).length : Int) else bs.getD (T - 2 ^ v) 0) (hz : z = if y < x then y else x) : Lst G n T (v + 1) bs z := by
  have hq := qs_le (G := G) (n := n) (T := T - 2 ^ v) (v := v)
  obtain ⟨a1, a2, a3⟩ := h
  have y1 : ∀ c, y ≤ c ↔ bs.getD (T - 2 ^ v) 0 ≤ c ∧ ((qs G n (T - 2 ^ v) v).length : Int) ≤ c := fun c => by
    rw [hy]
    split <;> omega
  have z1 : ∀ c, z ≤ c ↔ x ≤ c ∨ y ≤ c := fun c => by
    rw [hz]
    split <;> omega
  refine ⟨?_, ?_, fun c => ?_⟩
  · rw [hz, hy]
    split <;> split <;> omega
  · rw [hz]
    split <;> omega
  · rw [z1, y1, a3]
    constructor
    · rintro ((q | ⟨u, q1, q2⟩) | q)
      · exact .inl q
      · exact .inr ⟨u, by omega, q2⟩
      · exact .inr ⟨v, Nat.lt_succ_self _, hb, q⟩
    · rintro (q | ⟨u, q1, q2⟩)
      · exact .inl (.inl q)
      · rcases Nat.lt_or_eq_of_le (Nat.le_of_lt_succ q1) with q | q
        · exact .inl (.inr ⟨u, q, q2⟩)
        · subst q
          exact .inr q2.2
theorem Lst.done (hn : n ≤ 8) (hT : T < 2 ^ n) (h0 : T ≠ 0) (hb : ∀ S, S < T → Wd G n S (bs.getD S 0)) (h : Lst G n T n bs x) : Wd G n T x := by
  obtain ⟨a1, a2, a3⟩ := h
  have h256 := two256 hn
  refine ⟨a1, a2, fun c hc => ?_⟩
  rw [el_split hn hT h0, a3 c]
  have sub : ∀ u, T.testBit u = true → T - 2 ^ u < T := fun u _ => Nat.sub_lt (Nat.pos_of_ne_zero h0) (Nat.two_pow_pos u)
  constructor
  · rintro ⟨u, h1, h2, h3, h4⟩
    exact .inr ⟨u, h1, h2, ((hb _ (sub u h2)).2.2 c hc).mp h3, h4⟩
  · rintro (z | ⟨u, h1, h2, h3, h4⟩)
    · obtain ⟨u, hu, hbit⟩ := bits_some T (by omega) h0
      have hun : u < n := Nat.lt_of_not_le fun q => by
        rw [Nat.testBit_lt_two_pow (Nat.lt_of_lt_of_le hT (Nat.pow_le_pow_right (by decide) q))] at hbit
        cases hbit
      have hw := hb _ (sub u hbit)
      exact ⟨u, hun, hbit, (hw.2.2 c hc).mpr (Int.le_trans hw.2.1 z), Int.le_trans qs_le z⟩
    · exact ⟨u, h1, h2, ((hb _ (sub u h2)).2.2 c hc).mpr h3, h4⟩
theorem wd_zero : Wd G n 0 (-1) := ⟨Int.le_refl _, by omega, fun c hc => ⟨fun _ => hc, fun _ => .zero⟩⟩
end
section
variable {P : Program} {w : World} {K : PySem.W.Frag} {mg : Str → Option Value} {base : Heap} {C CT CB : Addr}
def spWidth : Sp := fun vs H Q _ => ∃ (a : Addr) (rows : List (List Nat)), vs = [.ref a] ∧ LOf LstN H a rows ∧ Ok rows.length (gr rows) ∧ rows.length ≤ 8 ∧ ∀ H' x, Ex H H' → Wd (gr rows) rows.length (2 ^ rows.length - 1) x → Q (.int x) H'
theorem sc_law_width : FnScope ["_law_near_here", "_law_best", "_law_taken", "_law_least", "_law_v", "_law_before"] ["_law_near_here"] (defScope (top 47)) := ⟨rfl, rfl, rfl, by decide +kernel, rfl, by decide +kernel, by decide +kernel⟩
theorem cal_law_width (T : Txt K mg C CT CB) (D : Df K mg "_law_width" 47) (c_law_later : Cal P w K mg base 1 "_law_later" spLater) : Cal P w K mg base 2 "_law_width" spWidth := by
  refine cal_mk D sc_law_width (fun _ _ _ _ _ _ us hl => match us, hl with | [_], _ => rfl) (fun vs H Q E h => ?_) (fun f cdv A outer s H vs Q E hr h => ?_)
  · obtain ⟨a, rows, rfl, _⟩ := h
    rfl
  · obtain ⟨a, rows, rfl, hLa, ok, hn, q⟩ := h
    obtain ⟨rv, ha, hrv⟩ := id hLa
    have hrl : rv.length = rows.length := Paired.length hrv
    have h256 := two256 hn
    have hpos := Nat.two_pow_pos rows.length
    have pw : ∀ m : Nat, (1 : Int) * 2 ^ ((m : Int).toNat) = ((2 ^ m : Nat) : Int) := fun m => by
      rw [Int.one_mul, Int.toNat_natCast, Int.natCast_pow]
      rfl
    refine ⟨_, (pss_cons (ps_set (i := 1) sc_law_width.nd rfl (.inl rfl) (pe_lst (pa_cons (pe_un un_neg pe_int) pa_nil)))
      (pss_cons (ps_for PassesOwn.never rfl (pi_range2 (by rfl) T.zrange (pa_cons pe_int (pa_cons (pe_op op_shl pe_int (pe_callB (lenK K) (by rfl) T.zlen PySem.boot_len (pa_cons (pv 0) pa_nil))) pa_nil))) (pg_name (i := 2) sc_law_width.nd rfl (.inl rfl)) (pss_cons (ps_set (i := 3) sc_law_width.nd rfl (.inl rfl) (pe_callB (lenK K) (by rfl) T.zlen PySem.boot_len (pa_cons (pv 0) pa_nil)))
      (pss_cons (ps_for PassesOwn.never rfl (pi_range1 rfl T.zrange (pa_cons (pe_callB (lenK K) (by rfl) T.zlen PySem.boot_len (pa_cons (pv 0) pa_nil)) pa_nil)) (pg_name (i := 4) sc_law_width.nd rfl (.inl rfl)) (pss_one (ps_if (PW.pt (pw_and (pt_cmpR op_eq (pe_op op_and (pe_op op_shr (pv 2) (pv 4)) pe_int) pe_int (nomark _)) (pw_and1 (pt_cmpR op_lt (pe_ix (ixLK K) (pv 1) (pe_op op_sub (pv 2) (pe_op op_shl pe_int (pv 4))) (fun _ _ => rfl)) (pv 3) (nomark _))))) (pss_cons (ps_set (i := 5) sc_law_width.nd rfl (.inl rfl) (pe_op op_sub (pv 2) (pe_op op_shl pe_int (pv 4))))
      (pss_one (ps_set (i := 3) sc_law_width.nd rfl (.inl rfl) (pe_callB (call_min2 rfl) (by rfl) T.zmin (by decide +kernel) (pa_cons (pv 3) (pa_cons (pe_callB (call_max2 rfl) (by rfl) T.zmax (by decide +kernel) (pa_cons (pe_ix (ixLK K) (pv 1) (pv 5) (fun _ _ => rfl)) (pa_cons (pe_c c_law_later hr (by decide) rfl (pa_cons (pv 0) (pa_cons (pv 5) (pa_cons (pv 4) pa_nil)))) pa_nil))) pa_nil)))))) pss_nil)))
      (pss_one (ps_expr (pe_bm PySem.F.plainAttrs_list PySem.F.slot_list_append PySem.F.type_list_append mt_append (pv 1) (pa_cons (pv 3) pa_nil)))))))
      (pss_one (ps_ret (pe_ix (ixLK K) (pv 1) (pe_op op_sub (pe_callB (lenK K) (by rfl) T.zlen PySem.boot_len (pa_cons (pv 1) pa_nil)) pe_int) (fun _ _ => rfl)))))), ?_⟩
    refine ⟨1, rfl, small (by show 1 ≤ 10000000; decide), fun B nB => ?_⟩
    have e0 := ex_new (o := .lst [V.int (-1)]) nB
    refine ⟨_, rfl, a, _, rfl, .inl (in2 (e0 _ _ ha)), _, _, rfl, rfl, ⟨by omega, by omega, by decide⟩, ?_⟩
    have hvs : [V.int 1, V.int (1 * 2 ^ ((rv.length : Int)).toNat)] = [V.int 1, V.int ((2 ^ rows.length : Nat) : Int)] := by rw [hrl, pw]
    refine ⟨_, _, hvs, ⟨by omega, by omega, by omega, by omega⟩, ?_⟩
    rw [show (((2 ^ rows.length : Nat) : Int) - 1).toNat = 2 ^ rows.length - 1 by omega]
    refine for_range (fun i σ' H' => ∃ (o2 o3 o4 o5 : Option V) (bs : List Int), σ' = [some (.ref a), some (.ref B), o2, o3, o4, o5] ∧ Ex H H' ∧ H' B = some (.lst (bs.map V.int)) ∧ bs.length = i + 1 ∧ ∀ S, S < i + 1 → Wd (gr rows) rows.length S (bs.getD S 0))
      ⟨none, none, none, none, [-1], rfl, e0, upd_same, rfl, fun S hS => by
        have : S = 0 := by omega
        subst this
        exact wd_zero⟩ (fun i σ' H' hi hP => ?_) (fun σ' H' hP => ?_)
    · obtain ⟨o2, o3, o4, o5, bs, rfl, e1, hB, hbl, hwd⟩ := hP
      rw [show (V.int (1 + (i : Int))) = nI (i + 1) by unfold nI; congr 1; omega]
      refine ⟨_, rfl, a, _, rfl, .inl (in2 (e1 _ _ ha)), ?_⟩
      refine ⟨_, rfl, a, _, rfl, .inl (in2 (e1 _ _ ha)), _, rfl, by omega, by omega, ?_⟩
      rw [show ((rv.length : Nat) : Int).toNat = rows.length by omega, hrl]
      have bat : ∀ S, S < i + 1 → (bs.map V.int)[S]? = some (.int (bs.getD S 0)) := fun S hS => by
        rw [List.getElem?_map, List.getElem?_eq_getElem (by omega), List.getD_eq_getElem?_getD, List.getElem?_eq_getElem (by omega), Option.getD_some]
        rfl
      refine for_range (fun v σ' H2 => ∃ (x : Int) (o4 o5 : Option V), σ' = [some (.ref a), some (.ref B), some (nI (i + 1)), some (.int x), o4, o5] ∧ Ex H' H2 ∧ Lst (gr rows) rows.length (i + 1) v bs x)
        ⟨(rows.length : Int), o4, o5, rfl, .refl H', .start⟩ (fun v σ' H2 hv hP => ?_) (fun σ' H2 hP => ?_)
      · obtain ⟨x, o4, o5, rfl, e2, ls⟩ := hP
        rw [show (V.int (0 + (v : Int))) = nI v by unfold nI; rw [Int.zero_add]]
        refine ⟨_, rfl, _, rfl, _, _, rfl, rfl, by show (0 : Int) ≤ (v : Int); omega, _, _, rfl, rfl, rfl, _, rfl, ?_⟩
        rw [bit_int]
        refine ite2 (fun c1 => ?_) (fun c1 => ?_)
        · obtain ⟨b1, b2, b3⟩ := bits_on (i + 1) (by omega) v (by omega) c1
          have hlt : i + 1 - 2 ^ v < i + 1 := Nat.sub_lt (Nat.succ_pos _) (Nat.two_pow_pos v)
          have hsub : ((i + 1 : Nat) : Int) - 1 * 2 ^ ((v : Int).toNat) = ((i + 1 - 2 ^ v : Nat) : Int) := by
            rw [pw]
            omega
          have hw := hwd _ hlt
          refine ⟨_, rfl, _, rfl, _, rfl, _, _, rfl, rfl, ⟨by omega, by omega, by decide⟩, _, _, rfl, rfl, B, _, _, .int (bs.getD (i + 1 - 2 ^ v) 0), rfl, rfl, in2 (e2 _ _ hB), ?_, _, rfl, _, _, rfl, rfl, _, rfl, ?_⟩
          · rw [hsub]
            exact atI_nat (bat _ hlt)
          · refine ite2 (fun c2 => ?_) (fun c2 => ?_)
            · refine seq_set (v := nI (i + 1 - 2 ^ v)) (H' := H2) (fun Q' q' => ⟨_, rfl, _, rfl, _, _, rfl, rfl, ⟨by omega, by omega, by decide⟩, _, _, rfl, rfl, ?_⟩) ?_
              · dsimp only
                rw [hsub]
                exact q'
              · refine ⟨_, rfl, _, rfl, _, rfl, B, _, _, .int (bs.getD (i + 1 - 2 ^ v) 0), rfl, rfl, in2 (e2 _ _ hB), atI_nat (bat _ hlt), _, rfl, _, rfl, _, rfl, a, i + 1 - 2 ^ v, v, rows, rfl, hLa.ex (fun e z => z.ex e) (e1.trans e2), ok, by omega, hv, fun H3 e3 => ?_⟩
                refine ⟨_, _, rfl, _, _, rfl, _, _, _, rfl, e2.trans e3, ls.take c1 hw.1 hw.2.1 rfl rfl⟩
            · exact ⟨x, _, _, rfl, e2, ls.skip (by
                have : ¬ bs.getD (i + 1 - 2 ^ v) 0 < x := fun z => c2 (decide_eq_true z)
                omega)⟩
        · refine iteF ⟨x, _, _, rfl, e2, ls.off (Bool.eq_false_iff.mpr c1)⟩
      · obtain ⟨x, o4, o5, rfl, e2, ls⟩ := hP
        have hB2 := e2 _ _ hB
        refine ⟨_, rfl, .inl ⟨rfl, _, in2 hB2⟩, _, rfl, B, _, _, rfl, rfl, hB2, by rw [List.length_map]; exact smallT (by omega), ?_⟩
        have hw := ls.done hn (by omega) (by omega) hwd
        refine ⟨_, _, _, _, bs ++ [x], rfl, ex_mut (e1.trans e2) nB, by rw [upd_same, List.map_append]; rfl, by rw [List.length_append, hbl]; rfl, fun S hS => ?_⟩
        by_cases z : S < i + 1
        · rw [List.getD_eq_getElem?_getD, List.getElem?_append_left (by omega), ← List.getD_eq_getElem?_getD]
          exact hwd S z
        · have z : S = i + 1 := by omega
          subst z
          rw [List.getD_eq_getElem?_getD, List.getElem?_append_right (by omega), hbl, Nat.sub_self]
          exact hw
    · obtain ⟨o2, o3, o4, o5, bs, rfl, e1, hB, hbl, hwd⟩ := hP
      refine ⟨_, rfl, _, rfl, B, _, rfl, .inl (in2 hB), _, _, rfl, rfl, B, _, _, .int (bs.getD (2 ^ rows.length - 1) 0), rfl, rfl, in2 hB, ?_, q H' _ e1 (hwd _ (by omega))⟩
      rw [List.length_map, hbl, show (((2 ^ rows.length - 1 + 1 : Nat) : Int) - 1) = ((2 ^ rows.length - 1 : Nat) : Int) by omega]
      refine atI_nat ?_
      rw [List.getElem?_map, List.getElem?_eq_getElem (by omega), List.getD_eq_getElem?_getD, List.getElem?_eq_getElem (by omega), Option.getD_some]
      rfl
end
end K67
set_option Elab.async false
set_option linter.all false
set_option maxRecDepth 100000
set_option maxHeartbeats 2000000
namespace K67
open PySem PySem.Spec PyProof.Rows L2
open K67M (Gr comp IsPos Holds Gf Ok Reach srt ins del Via qs El)
/-! ### the same, told twice -/
abbrev SameR := Hp → V → V → Prop
def R0 : SameR := fun _ x y => ∃ i : Int, x = .int i ∧ y = .int i
def RT (R : SameR) : SameR := fun H x y => ∃ p q xs ys, x = .ref p ∧ y = .ref q ∧ H p = some (.tup xs) ∧ H q = some (.tup ys) ∧ Paired (R H) xs ys ∧ xs.length ≤ 1000000
def RL (R : SameR) : SameR := fun H x y => ∃ p q xs ys, x = .ref p ∧ y = .ref q ∧ H p = some (.lst xs) ∧ H q = some (.lst ys) ∧ Paired (R H) xs ys ∧ xs.length ≤ 1000000
def spEq (R : SameR) : Sp := fun vs H Q _ => ∃ x y, vs = [x, y] ∧ R H x y ∧ Q (.bl true) H
section
variable {P : Program} {w : World} {K : PySem.W.Frag} {mg : Str → Option Value} {base : Heap} {C CT CB : Addr}
theorem sc_law_equal : FnScope ["_law_actual", "_law_due"] ["_law_actual", "_law_due"] (defScope (top 34)) := ⟨rfl, rfl, rfl, by decide +kernel, rfl, by decide +kernel, by decide +kernel⟩
theorem sc_law_all_equal : FnScope ["_law_actual", "_law_due", "_law_k"] ["_law_actual", "_law_due"] (defScope (top 35)) := ⟨rfl, rfl, rfl, by decide +kernel, rfl, by decide +kernel, by decide +kernel⟩
theorem cal_eq0 (T : Txt K mg C CT CB) (D : Df K mg "_law_equal" 34) : Cal P w K mg base 1 "_law_equal" (spEq R0) := by
  refine cal_mk D sc_law_equal (fun _ _ _ _ _ _ us hl => match us, hl with | [_, _], _ => rfl) (fun vs H Q E h => ?_) (fun f cdv A outer s H vs Q E hr h => ?_)
  · obtain ⟨x, y, rfl, _⟩ := h
    rfl
  · obtain ⟨x, y, rfl, ⟨i, rfl, rfl⟩, q⟩ := h
    refine ⟨_, (pss_cons (ps_if (pt_val (pe_callB (isiK K) (by rfl) T.zisinstance (by decide +kernel) (pa_cons (pv 1) (pa_cons (pe_bltn (v := .ty "list") (by rfl) T.zlist (by decide +kernel) rfl) pa_nil)))) (pss_cons (ps_if (PW.pt (pw_or (pt_not (pt_val (pe_callB (isiK K) (by rfl) T.zisinstance (by decide +kernel) (pa_cons (pv 0) (pa_cons (pe_bltn (v := .ty "list") (by rfl) T.zlist (by decide +kernel) rfl) pa_nil))))) (pw_or1 (pt_cmpR op_ne (pe_callB (lenK K) (by rfl) T.zlen PySem.boot_len (pa_cons (pv 0) pa_nil)) (pe_callB (lenK K) (by rfl) T.zlen PySem.boot_len (pa_cons (pv 1) pa_nil)) (nomark _))))) (pss_one (ps_ret pe_bl)) pss_nil)
      (pss_one ps_never)) pss_nil)
      (pss_cons (ps_if (pt_val (pe_callB (isiK K) (by rfl) T.zisinstance (by decide +kernel) (pa_cons (pv 1) (pa_cons (pe_bltn (v := .ty "tuple") (by rfl) T.ztuple (by decide +kernel) rfl) pa_nil)))) (pss_cons (ps_if (PW.pt (pw_or (pt_not (pt_val (pe_callB (isiK K) (by rfl) T.zisinstance (by decide +kernel) (pa_cons (pv 0) (pa_cons (pe_bltn (v := .ty "tuple") (by rfl) T.ztuple (by decide +kernel) rfl) pa_nil))))) (pw_or1 (pt_cmpR op_ne (pe_callB (lenK K) (by rfl) T.zlen PySem.boot_len (pa_cons (pv 0) pa_nil)) (pe_callB (lenK K) (by rfl) T.zlen PySem.boot_len (pa_cons (pv 1) pa_nil)) (nomark _))))) (pss_one (ps_ret pe_bl)) pss_nil)
      (pss_one ps_never)) pss_nil)
      (pss_cons (ps_if (pt_val (pe_callB (isiK K) (by rfl) T.zisinstance (by decide +kernel) (pa_cons (pv 1) (pa_cons (pe_bltn (v := .ty "bool") (by rfl) T.zbool (by decide +kernel) rfl) pa_nil)))) (pss_one (ps_ret (pe_and (pe_callB (isiK K) (by rfl) T.zisinstance (by decide +kernel) (pa_cons (pv 0) (pa_cons (pe_bltn (v := .ty "bool") (by rfl) T.zbool (by decide +kernel) rfl) pa_nil))) (pe_one (pe_cmpR op_eq (pv 0) (pv 1) (nomark _)))))) pss_nil)
      (pss_cons (ps_if (pt_val (pe_callB (isiK K) (by rfl) T.zisinstance (by decide +kernel) (pa_cons (pv 1) (pa_cons (pe_bltn (v := .ty "int") (by rfl) T.zint (by decide +kernel) rfl) pa_nil)))) (pss_one (ps_ret (pe_and (pe_callB (isiK K) (by rfl) T.zisinstance (by decide +kernel) (pa_cons (pv 0) (pa_cons (pe_bltn (v := .ty "int") (by rfl) T.zint (by decide +kernel) rfl) pa_nil))) (pe_and (pe_not (pe_callB (isiK K) (by rfl) T.zisinstance (by decide +kernel) (pa_cons (pv 0) (pa_cons (pe_bltn (v := .ty "bool") (by rfl) T.zbool (by decide +kernel) rfl) pa_nil)))) (pe_one (pe_cmpR op_eq (pv 0) (pv 1) (nomark _))))))) pss_nil)
      (pss_cons (ps_if (pt_val (pe_callB (isiK K) (by rfl) T.zisinstance (by decide +kernel) (pa_cons (pv 1) (pa_cons (pe_bltn (v := .ty "str") (by rfl) T.zstr (by decide +kernel) rfl) pa_nil)))) (pss_one (ps_ret (pe_and (pe_callB (isiK K) (by rfl) T.zisinstance (by decide +kernel) (pa_cons (pv 0) (pa_cons (pe_bltn (v := .ty "str") (by rfl) T.zstr (by decide +kernel) rfl) pa_nil))) (pe_one (pe_cmpR op_eq (pv 0) (pv 1) (nomark _)))))) pss_nil)
      (pss_one (ps_ret (pe_cmpR op_isN (pv 0) pe_non (nomark _))))))))), ?_⟩
    refine ⟨_, rfl, _, _, _, _, false, rfl, .ty _, ty_int i, kit_ty kb_int_list, false, rfl, iteF ?_⟩
    refine ⟨_, rfl, _, _, _, _, false, rfl, .ty _, ty_int i, kit_ty kb_int_tuple, false, rfl, iteF ?_⟩
    refine ⟨_, rfl, _, _, _, _, false, rfl, .ty _, ty_int i, kit_ty kb_int_bool, false, rfl, iteF ?_⟩
    refine ⟨_, rfl, _, _, _, _, true, rfl, .ty _, ty_int i, kit_ty kb_int_int, true, rfl, iteT ?_⟩
    refine ⟨_, rfl, _, _, _, _, true, rfl, .ty _, ty_int i, kit_ty kb_int_int, true, rfl, iteT ?_⟩
    refine ⟨_, rfl, _, _, _, _, false, rfl, .ty _, ty_int i, kit_ty kb_int_bool, false, rfl, true, rfl, iteT ?_⟩
    refine ⟨_, rfl, _, rfl, rfl, ?_⟩
    rw [decide_eq_true (rfl : V.int i = V.int i)]
    exact q
theorem cal_eqT {k : Nat} {R : SameR} (T : Txt K mg C CT CB) (D : Df K mg "_law_equal" 34) (c_law_all_equal : Cal P w K mg base k "_law_all_equal" (spEq (RT R))) : Cal P w K mg base (k + 1) "_law_equal" (spEq (RT R)) := by
  refine cal_mk D sc_law_equal (fun _ _ _ _ _ _ us hl => match us, hl with | [_, _], _ => rfl) (fun vs H Q E h => ?_) (fun f cdv A outer s H vs Q E hr h => ?_)
  · obtain ⟨x, y, rfl, _⟩ := h
    rfl
  · obtain ⟨x, y, rfl, hR, q⟩ := h
    obtain ⟨p, p', xs, ys, rfl, rfl, hp, hq, hxy, hl⟩ := id hR
    refine ⟨_, (pss_cons (ps_if (pt_val (pe_callB (isiK K) (by rfl) T.zisinstance (by decide +kernel) (pa_cons (pv 1) (pa_cons (pe_bltn (v := .ty "list") (by rfl) T.zlist (by decide +kernel) rfl) pa_nil)))) (pss_cons (ps_if (PW.pt (pw_or (pt_not (pt_val (pe_callB (isiK K) (by rfl) T.zisinstance (by decide +kernel) (pa_cons (pv 0) (pa_cons (pe_bltn (v := .ty "list") (by rfl) T.zlist (by decide +kernel) rfl) pa_nil))))) (pw_or1 (pt_cmpR op_ne (pe_callB (lenK K) (by rfl) T.zlen PySem.boot_len (pa_cons (pv 0) pa_nil)) (pe_callB (lenK K) (by rfl) T.zlen PySem.boot_len (pa_cons (pv 1) pa_nil)) (nomark _))))) (pss_one (ps_ret pe_bl)) pss_nil)
      (pss_one (ps_ret (pe_c c_law_all_equal hr (Nat.le_refl _) rfl (pa_cons (pv 0) (pa_cons (pv 1) pa_nil)))))) pss_nil)
      (pss_cons (ps_if (pt_val (pe_callB (isiK K) (by rfl) T.zisinstance (by decide +kernel) (pa_cons (pv 1) (pa_cons (pe_bltn (v := .ty "tuple") (by rfl) T.ztuple (by decide +kernel) rfl) pa_nil)))) (pss_cons (ps_if (PW.pt (pw_or (pt_not (pt_val (pe_callB (isiK K) (by rfl) T.zisinstance (by decide +kernel) (pa_cons (pv 0) (pa_cons (pe_bltn (v := .ty "tuple") (by rfl) T.ztuple (by decide +kernel) rfl) pa_nil))))) (pw_or1 (pt_cmpR op_ne (pe_callB (lenK K) (by rfl) T.zlen PySem.boot_len (pa_cons (pv 0) pa_nil)) (pe_callB (lenK K) (by rfl) T.zlen PySem.boot_len (pa_cons (pv 1) pa_nil)) (nomark _))))) (pss_one (ps_ret pe_bl)) pss_nil)
      (pss_one (ps_ret (pe_c c_law_all_equal hr (Nat.le_refl _) rfl (pa_cons (pv 0) (pa_cons (pv 1) pa_nil)))))) pss_nil)
      (pss_cons (ps_if (pt_val (pe_callB (isiK K) (by rfl) T.zisinstance (by decide +kernel) (pa_cons (pv 1) (pa_cons (pe_bltn (v := .ty "bool") (by rfl) T.zbool (by decide +kernel) rfl) pa_nil)))) (pss_one (ps_ret (pe_and (pe_callB (isiK K) (by rfl) T.zisinstance (by decide +kernel) (pa_cons (pv 0) (pa_cons (pe_bltn (v := .ty "bool") (by rfl) T.zbool (by decide +kernel) rfl) pa_nil))) (pe_one (pe_cmpR op_eq (pv 0) (pv 1) (nomark _)))))) pss_nil)
      (pss_cons (ps_if (pt_val (pe_callB (isiK K) (by rfl) T.zisinstance (by decide +kernel) (pa_cons (pv 1) (pa_cons (pe_bltn (v := .ty "int") (by rfl) T.zint (by decide +kernel) rfl) pa_nil)))) (pss_one (ps_ret (pe_and (pe_callB (isiK K) (by rfl) T.zisinstance (by decide +kernel) (pa_cons (pv 0) (pa_cons (pe_bltn (v := .ty "int") (by rfl) T.zint (by decide +kernel) rfl) pa_nil))) (pe_and (pe_not (pe_callB (isiK K) (by rfl) T.zisinstance (by decide +kernel) (pa_cons (pv 0) (pa_cons (pe_bltn (v := .ty "bool") (by rfl) T.zbool (by decide +kernel) rfl) pa_nil)))) (pe_one (pe_cmpR op_eq (pv 0) (pv 1) (nomark _))))))) pss_nil)
      (pss_cons (ps_if (pt_val (pe_callB (isiK K) (by rfl) T.zisinstance (by decide +kernel) (pa_cons (pv 1) (pa_cons (pe_bltn (v := .ty "str") (by rfl) T.zstr (by decide +kernel) rfl) pa_nil)))) (pss_one (ps_ret (pe_and (pe_callB (isiK K) (by rfl) T.zisinstance (by decide +kernel) (pa_cons (pv 0) (pa_cons (pe_bltn (v := .ty "str") (by rfl) T.zstr (by decide +kernel) rfl) pa_nil))) (pe_one (pe_cmpR op_eq (pv 0) (pv 1) (nomark _)))))) pss_nil)
      (pss_one (ps_ret (pe_cmpR op_isN (pv 0) pe_non (nomark _))))))))), ?_⟩
    refine ⟨_, rfl, _, _, _, _, false, rfl, .ty _, ty_tup hq, kit_ty kb_tuple_list, false, rfl, iteF ?_⟩
    refine ⟨_, rfl, _, _, _, _, true, rfl, .ty _, ty_tup hq, kit_ty kb_tuple_tuple, true, rfl, iteT ?_⟩
    refine ⟨_, rfl, _, _, _, _, true, rfl, .ty _, ty_tup hp, kit_ty kb_tuple_tuple, true, rfl, iteF ?_⟩
    have hlen : xs.length = ys.length := Paired.length hxy
    refine ⟨_, rfl, p, _, rfl, .inr (in3 hp), _, rfl, p', _, rfl, .inr (in3 hq), rfl, false, ?_, iteF ?_⟩
    · rw [hlen, decide_eq_true (rfl : V.int (ys.length : Int) = V.int (ys.length : Int))]
      rfl
    · exact ⟨_, rfl, _, rfl, _, _, rfl, hR, q⟩
theorem cal_eqL {k : Nat} {R : SameR} (T : Txt K mg C CT CB) (D : Df K mg "_law_equal" 34) (c_law_all_equal : Cal P w K mg base k "_law_all_equal" (spEq (RL R))) : Cal P w K mg base (k + 1) "_law_equal" (spEq (RL R)) := by
  refine cal_mk D sc_law_equal (fun _ _ _ _ _ _ us hl => match us, hl with | [_, _], _ => rfl) (fun vs H Q E h => ?_) (fun f cdv A outer s H vs Q E hr h => ?_)
  · obtain ⟨x, y, rfl, _⟩ := h
    rfl
  · obtain ⟨x, y, rfl, hR, q⟩ := h
    obtain ⟨p, p', xs, ys, rfl, rfl, hp, hq, hxy, hl⟩ := id hR
    refine ⟨_, (pss_cons (ps_if (pt_val (pe_callB (isiK K) (by rfl) T.zisinstance (by decide +kernel) (pa_cons (pv 1) (pa_cons (pe_bltn (v := .ty "list") (by rfl) T.zlist (by decide +kernel) rfl) pa_nil)))) (pss_cons (ps_if (PW.pt (pw_or (pt_not (pt_val (pe_callB (isiK K) (by rfl) T.zisinstance (by decide +kernel) (pa_cons (pv 0) (pa_cons (pe_bltn (v := .ty "list") (by rfl) T.zlist (by decide +kernel) rfl) pa_nil))))) (pw_or1 (pt_cmpR op_ne (pe_callB (lenK K) (by rfl) T.zlen PySem.boot_len (pa_cons (pv 0) pa_nil)) (pe_callB (lenK K) (by rfl) T.zlen PySem.boot_len (pa_cons (pv 1) pa_nil)) (nomark _))))) (pss_one (ps_ret pe_bl)) pss_nil)
      (pss_one (ps_ret (pe_c c_law_all_equal hr (Nat.le_refl _) rfl (pa_cons (pv 0) (pa_cons (pv 1) pa_nil)))))) pss_nil)
      (pss_cons (ps_if (pt_val (pe_callB (isiK K) (by rfl) T.zisinstance (by decide +kernel) (pa_cons (pv 1) (pa_cons (pe_bltn (v := .ty "tuple") (by rfl) T.ztuple (by decide +kernel) rfl) pa_nil)))) (pss_cons (ps_if (PW.pt (pw_or (pt_not (pt_val (pe_callB (isiK K) (by rfl) T.zisinstance (by decide +kernel) (pa_cons (pv 0) (pa_cons (pe_bltn (v := .ty "tuple") (by rfl) T.ztuple (by decide +kernel) rfl) pa_nil))))) (pw_or1 (pt_cmpR op_ne (pe_callB (lenK K) (by rfl) T.zlen PySem.boot_len (pa_cons (pv 0) pa_nil)) (pe_callB (lenK K) (by rfl) T.zlen PySem.boot_len (pa_cons (pv 1) pa_nil)) (nomark _))))) (pss_one (ps_ret pe_bl)) pss_nil)
      (pss_one (ps_ret (pe_c c_law_all_equal hr (Nat.le_refl _) rfl (pa_cons (pv 0) (pa_cons (pv 1) pa_nil)))))) pss_nil)
      (pss_cons (ps_if (pt_val (pe_callB (isiK K) (by rfl) T.zisinstance (by decide +kernel) (pa_cons (pv 1) (pa_cons (pe_bltn (v := .ty "bool") (by rfl) T.zbool (by decide +kernel) rfl) pa_nil)))) (pss_one (ps_ret (pe_and (pe_callB (isiK K) (by rfl) T.zisinstance (by decide +kernel) (pa_cons (pv 0) (pa_cons (pe_bltn (v := .ty "bool") (by rfl) T.zbool (by decide +kernel) rfl) pa_nil))) (pe_one (pe_cmpR op_eq (pv 0) (pv 1) (nomark _)))))) pss_nil)
      (pss_cons (ps_if (pt_val (pe_callB (isiK K) (by rfl) T.zisinstance (by decide +kernel) (pa_cons (pv 1) (pa_cons (pe_bltn (v := .ty "int") (by rfl) T.zint (by decide +kernel) rfl) pa_nil)))) (pss_one (ps_ret (pe_and (pe_callB (isiK K) (by rfl) T.zisinstance (by decide +kernel) (pa_cons (pv 0) (pa_cons (pe_bltn (v := .ty "int") (by rfl) T.zint (by decide +kernel) rfl) pa_nil))) (pe_and (pe_not (pe_callB (isiK K) (by rfl) T.zisinstance (by decide +kernel) (pa_cons (pv 0) (pa_cons (pe_bltn (v := .ty "bool") (by rfl) T.zbool (by decide +kernel) rfl) pa_nil)))) (pe_one (pe_cmpR op_eq (pv 0) (pv 1) (nomark _))))))) pss_nil)
      (pss_cons (ps_if (pt_val (pe_callB (isiK K) (by rfl) T.zisinstance (by decide +kernel) (pa_cons (pv 1) (pa_cons (pe_bltn (v := .ty "str") (by rfl) T.zstr (by decide +kernel) rfl) pa_nil)))) (pss_one (ps_ret (pe_and (pe_callB (isiK K) (by rfl) T.zisinstance (by decide +kernel) (pa_cons (pv 0) (pa_cons (pe_bltn (v := .ty "str") (by rfl) T.zstr (by decide +kernel) rfl) pa_nil))) (pe_one (pe_cmpR op_eq (pv 0) (pv 1) (nomark _)))))) pss_nil)
      (pss_one (ps_ret (pe_cmpR op_isN (pv 0) pe_non (nomark _))))))))), ?_⟩
    refine ⟨_, rfl, _, _, _, _, true, rfl, .ty _, ty_lst hq, kit_ty kb_list_list, true, rfl, iteT ?_⟩
    refine ⟨_, rfl, _, _, _, _, true, rfl, .ty _, ty_lst hp, kit_ty kb_list_list, true, rfl, iteF ?_⟩
    have hlen : xs.length = ys.length := Paired.length hxy
    refine ⟨_, rfl, p, _, rfl, .inl (in2 hp), _, rfl, p', _, rfl, .inl (in2 hq), rfl, false, ?_, iteF ?_⟩
    · rw [hlen, decide_eq_true (rfl : V.int (ys.length : Int) = V.int (ys.length : Int))]
      rfl
    · exact ⟨_, rfl, _, rfl, _, _, rfl, hR, q⟩
theorem cal_allT {k : Nat} {R : SameR} (T : Txt K mg C CT CB) (D : Df K mg "_law_all_equal" 35) (c_law_equal : Cal P w K mg base k "_law_equal" (spEq R)) : Cal P w K mg base (k + 1) "_law_all_equal" (spEq (RT R)) := by
  refine cal_mk D sc_law_all_equal (fun _ _ _ _ _ _ us hl => match us, hl with | [_, _], _ => rfl) (fun vs H Q E h => ?_) (fun f cdv A outer s H vs Q E hr h => ?_)
  · obtain ⟨x, y, rfl, _⟩ := h
    rfl
  · obtain ⟨x, y, rfl, ⟨p, p', xs, ys, rfl, rfl, hp, hq, hxy, hl⟩, q⟩ := h
    have hlen : xs.length = ys.length := Paired.length hxy
    refine ⟨_, (pss_cons (ps_for PassesOwn.never rfl (pi_range1 rfl T.zrange (pa_cons (pe_callB (lenK K) (by rfl) T.zlen PySem.boot_len (pa_cons (pv 1) pa_nil)) pa_nil)) (pg_name (i := 2) sc_law_all_equal.nd rfl (.inl rfl)) (pss_one (ps_if (pt_not (pt_val (pe_c c_law_equal hr (Nat.le_refl _) rfl (pa_cons (pe_ix (ixTK K) (pv 0) (pv 2) (fun _ _ => rfl)) (pa_cons (pe_ix (ixTK K) (pv 1) (pv 2) (fun _ _ => rfl)) pa_nil))))) (pss_one (ps_ret pe_bl)) pss_nil)))
      (pss_one (ps_ret pe_bl))), ?_⟩
    refine ⟨_, rfl, p', _, rfl, .inr (in3 hq), _, rfl, by omega, by omega, ?_⟩
    rw [show ((ys.length : Nat) : Int).toNat = ys.length from Int.toNat_natCast _]
    refine for_range (fun j σ' H' => ∃ o : Option V, σ' = [some (.ref p), some (.ref p'), o] ∧ H' = H) ⟨none, rfl, rfl⟩ (fun j σ' H' hj hP => ?_) (fun σ' H' hP => ?_)
    · obtain ⟨o, rfl, rfl⟩ := hP
      have hx : xs[j]? = some xs[j] := List.getElem?_eq_getElem (by omega)
      obtain ⟨y, hy, hR⟩ := paired_get hxy hx
      rw [show (V.int (0 + (j : Int))) = V.int (j : Int) by rw [Int.zero_add]]
      refine ⟨_, rfl, _, rfl, p, _, _, _, rfl, rfl, in3 hp, atI_nat hx, _, rfl, _, rfl, p', _, _, _, rfl, rfl, in3 hq, atI_nat hy, _, _, rfl, hR, true, rfl, iteF ⟨_, rfl, rfl⟩⟩
    · obtain ⟨o, rfl, rfl⟩ := hP
      exact q
theorem cal_allL {k : Nat} {R : SameR} (T : Txt K mg C CT CB) (D : Df K mg "_law_all_equal" 35) (c_law_equal : Cal P w K mg base k "_law_equal" (spEq R)) : Cal P w K mg base (k + 1) "_law_all_equal" (spEq (RL R)) := by
  refine cal_mk D sc_law_all_equal (fun _ _ _ _ _ _ us hl => match us, hl with | [_, _], _ => rfl) (fun vs H Q E h => ?_) (fun f cdv A outer s H vs Q E hr h => ?_)
  · obtain ⟨x, y, rfl, _⟩ := h
    rfl
  · obtain ⟨x, y, rfl, ⟨p, p', xs, ys, rfl, rfl, hp, hq, hxy, hl⟩, q⟩ := h
    have hlen : xs.length = ys.length := Paired.length hxy
    refine ⟨_, (pss_cons (ps_for PassesOwn.never rfl (pi_range1 rfl T.zrange (pa_cons (pe_callB (lenK K) (by rfl) T.zlen PySem.boot_len (pa_cons (pv 1) pa_nil)) pa_nil)) (pg_name (i := 2) sc_law_all_equal.nd rfl (.inl rfl)) (pss_one (ps_if (pt_not (pt_val (pe_c c_law_equal hr (Nat.le_refl _) rfl (pa_cons (pe_ix (ixLK K) (pv 0) (pv 2) (fun _ _ => rfl)) (pa_cons (pe_ix (ixLK K) (pv 1) (pv 2) (fun _ _ => rfl)) pa_nil))))) (pss_one (ps_ret pe_bl)) pss_nil)))
      (pss_one (ps_ret pe_bl))), ?_⟩
    refine ⟨_, rfl, p', _, rfl, .inl (in2 hq), _, rfl, by omega, by omega, ?_⟩
    rw [show ((ys.length : Nat) : Int).toNat = ys.length from Int.toNat_natCast _]
    refine for_range (fun j σ' H' => ∃ o : Option V, σ' = [some (.ref p), some (.ref p'), o] ∧ H' = H) ⟨none, rfl, rfl⟩ (fun j σ' H' hj hP => ?_) (fun σ' H' hP => ?_)
    · obtain ⟨o, rfl, rfl⟩ := hP
      have hx : xs[j]? = some xs[j] := List.getElem?_eq_getElem (by omega)
      obtain ⟨y, hy, hR⟩ := paired_get hxy hx
      rw [show (V.int (0 + (j : Int))) = V.int (j : Int) by rw [Int.zero_add]]
      refine ⟨_, rfl, _, rfl, p, _, _, _, rfl, rfl, in2 hp, atI_nat hx, _, rfl, _, rfl, p', _, _, _, rfl, rfl, in2 hq, atI_nat hy, _, _, rfl, hR, true, rfl, iteF ⟨_, rfl, rfl⟩⟩
    · obtain ⟨o, rfl, rfl⟩ := hP
      exact q
end
theorem same_nL {H : Hp} : ∀ l : List Nat, Paired (R0 H) (nL l) (nL l)
  | [] => .nil
  | _ :: l => .cons ⟨_, rfl, rfl⟩ (same_nL l)
/-- positions that are short -/
def Short (p : K67M.Pos) : Prop := p.1.length ≤ 1000000 ∧ p.2.length ≤ 1000000
theorem same_pos {H : Hp} {x y : V} {p : K67M.Pos} (h : PosV H x p) (g : PosV H y p) (hl : Short p) : RT (RT R0) H x y := by
  obtain ⟨q, a, b, rfl, e1, e2, e3⟩ := h
  obtain ⟨q', a', b', rfl, f1, f2, f3⟩ := g
  exact ⟨q, q', _, _, rfl, rfl, e1, f1, .cons ⟨a, a', _, _, rfl, rfl, e2, f2, same_nL _, by rw [nL_len]; exact hl.1⟩ (.cons ⟨b, b', _, _, rfl, rfl, e3, f3, same_nL _, by rw [nL_len]; exact hl.2⟩ .nil), by show 2 ≤ 1000000; decide⟩
theorem same_paired {H : Hp} : ∀ {xs ys : List V} {ps : List K67M.Pos}, Paired (PosV H) xs ps → Paired (PosV H) ys ps → (∀ p ∈ ps, Short p) → Paired (RT (RT R0) H) xs ys
  | _, _, _, .nil, .nil, _ => .nil
  | _, _, _, .cons h t, .cons g u, hs => .cons (same_pos h g (hs _ List.mem_cons_self)) (same_paired t u fun p hp => hs p (List.mem_cons_of_mem _ hp))
theorem same_lst {H : Hp} {a b : Addr} {ps : List K67M.Pos} (h : LOf PosV H a ps) (g : LOf PosV H b ps) (hl : ps.length ≤ 1000000) (hs : ∀ p ∈ ps, Short p) : RL (RT (RT R0)) H (.ref a) (.ref b) := by
  obtain ⟨xs, h1, h2⟩ := h
  obtain ⟨ys, g1, g2⟩ := g
  have : xs.length = ps.length := Paired.length h2
  exact ⟨a, b, xs, ys, rfl, rfl, h1, g1, same_paired h2 g2 hs, by omega⟩
theorem IsPos.short {G : Gr} {n k : Nat} {p : K67M.Pos} (h : IsPos G n k p) (hn : n ≤ 1000) : Short p := by
  obtain ⟨s, _, _, e⟩ := h.ex
  refine ⟨Nat.le_trans (rise_len h.srt h.lt) (by omega), ?_⟩
  rw [e]
  exact Nat.le_trans K67M.comp_len (by omega)
/-! ### a graph, made -/
theorem made_ex {C x dx : Addr} {H H' : Hp} (nx : H x = none) (ndx : H dx = none) (e : Exb x (upd (upd H dx (.own x)) x (.ins C dx [])) H') : Ex H H' := fun b o h => by
  have bx : b ≠ x := fun z => by
    rw [z, nx] at h
    cases h
  have bd : b ≠ dx := fun z => by
    rw [z, ndx] at h
    cases h
  exact e b o bx (by rw [upd_ne bx, upd_ne bd]; exact h)
theorem made_ex0 {C x dx : Addr} {H : Hp} (nx : H x = none) (ndx : H dx = none) : Ex H (upd (upd H dx (.own x)) x (.ins C dx [])) := made_ex nx ndx fun _ _ _ h => h
theorem made_at {C x dx e l : Addr} {H' : Hp} {n : Nat} {es : List (Nat × Nat)} (hx : H' x = some (.ins C dx (flds n e l))) (hl : LOf LstN H' l (rowsOf n es)) : GraphAt C H' x (rowsOf n es) := ⟨dx, e, l, by rw [rows_len]; exact hx, hl⟩
theorem LOf.pex {H H' : Hp} {a : Addr} {es : List (Nat × Nat)} (h : LOf PairV H a es) (e : Ex H H') : LOf PairV H' a es := h.ex (fun e z => z.tm (Tm.of e)) e
/-! ### TooLarge -/
def spGreatX (C CT : Addr) : Sp := fun vs H _ E => ∃ (g : Addr) (k : Nat) (rows : List (List Nat)), vs = [.ref g, nI k] ∧ GraphAt C H g rows ∧ 8 < rows.length ∧ k ≤ 9 ∧ E (.ref CT) none H
structure CalX (P : Program) (w : World) (K : PySem.W.Frag) (mg : Str → Option Value) (base : Heap) (k : Nat) (x : Str) (sp : Sp) : Prop where
  ex : ∃ f fd ps, FnOk P w K mg base (L2.CX P w) k f fd ps sp ∧ mg x = some (.ref f) ∧ PySem.W.keepIn K (.ref f) = true ∧ Binds K fd ps []
theorem call_isE2 {X : Cx} {a D : Addr} {oe : Obj} {pn : List (Addr × Obj)} {cls : Value} {d : Option Addr} (C : ExcC X.K D) (hz : Zc cls d oe) (hf : ∃ vs, oe.data = .fields vs) : CallR (X.suite a ((a, oe) :: pn)) (.builtin "isinstance") (fun xs H Q => cls = .ref D ∧ d = none ∧ rIsE X.K D a xs H Q) := by
  intro pins s σ H xs us Q I r h
  obtain ⟨rfl, rfl, h⟩ := h
  exact call_isE C hz hf pins s σ H xs us Q I r h
section
variable {P : Program} {w : World} {K : PySem.W.Frag} {mg : Str → Option Value} {base : Heap} {C CT CB : Addr}
theorem calx_greatest_refuge (T : Txt K mg C CT CB) (D : Df K mg "greatest_refuge" 29) (c_check_number : Cal P w K mg base 2 "check_number" spNum) : CalX P w K mg base 3 "greatest_refuge" (spGreatX C CT) := by
  obtain ⟨f, fd, F, g⟩ := D.ex
  refine ⟨f, fd, ["graph", "k"], F.ok sc_greatest_refuge (fun vs H Q E h => ?_) fun cdv A outer s H vs Q E hr h => ?_, g, F.kp, F.bindsN fun _ _ _ _ _ _ us hl => match us, hl with | [_, _], _ => rfl⟩
  · obtain ⟨g, k, rows, rfl, _⟩ := h
    rfl
  · obtain ⟨g, k, rows, rfl, hG, hn, hk, q⟩ := h
    obtain ⟨dx, ed, lk, hg, _⟩ := id hG
    refine ⟨_, (pss_cons (ps_expr (pe_c c_check_number hr (by decide) rfl (pa_cons (pv 1) (pa_cons pe_int (pa_cons (pe_gi T.iSEARCHERS) pa_nil)))))
      (pss_cons (ps_if (pt_cmpR op_gt (fldK K (pv 0)) (pe_gi T.iSMALL) (nomark _)) (pss_one (ps_raise rfl (takes_of rfl rfl rfl rfl) (pmk_own PySem.F.excBase_ValueError T.xT T.gTooLarge T.kT (raises_own T.bT T.tT) rfl))) pss_nil)
      (pss_one ps_never))), ?_⟩
    refine ⟨_, rfl, (k : Int), 0, 9, rfl, ⟨by omega, by omega⟩, ?_⟩
    refine ⟨_, rfl, g, C, dx, _, _, rfl, hg, T.cl, T.nNodes, flds_nodes _ _ _, _, _, rfl, rfl, true, congrArg V.bl (decide_eq_true (by omega)), iteT q⟩
theorem sc_too_large : FnScope ["_law_n", "_law_edges_here", "_law_k", "e"] ["_law_n", "_law_edges_here", "_law_k"] (defScope (top 48)) := ⟨rfl, rfl, rfl, by decide +kernel, rfl, by decide +kernel, by decide +kernel⟩
def spTooLarge : Sp := fun vs H Q _ => ∃ (n k : Nat) (a : Addr) (es : List (Nat × Nat)), vs = [nI n, .ref a, nI k] ∧ 8 < n ∧ n ≤ 40 ∧ LOf PairV H a es ∧ EdgesOk n es ∧ k ≤ 9 ∧ ∀ H', Ex H H' → Q (.bl true) H'
theorem cal_law_too_large (T : Txt K mg C CT CB) (D : Df K mg "_law_too_large" 48) (c_Graph : Mak P w K mg base 4 "Graph" C (spInit C)) (cx : CalX P w K mg base 3 "greatest_refuge" (spGreatX C CT)) : Cal P w K mg base 6 "_law_too_large" spTooLarge := by
  refine cal_mk D sc_too_large (fun _ _ _ _ _ _ us hl => match us, hl with | [_, _, _], _ => rfl) (fun vs H Q E h => ?_) (fun f cdv A outer s H vs Q E hr h => ?_)
  · obtain ⟨n, k, a, es, rfl, _⟩ := h
    rfl
  · obtain ⟨n, k, a, es, rfl, hn8, hn, hLa, hes, hk, q⟩ := h
    obtain ⟨fG, fdG, psG, GT, gG, kG, bG⟩ := cx.ex
    refine ⟨_, (pss_cons (ps_try_as (i := 3) (Wout := fun _ _ _ _ => False) rfl rfl sc_too_large.nd rfl rfl ⟨rfl, by decide, .inl T.gTooLarge⟩ takes0
      (fun W pn xe tk _ => pss_one (ps_expr (by exact (pe_callS GT (hr.mono (by decide)) rfl gG kG bG (fun σ => passAt tk σ) (by exact (pa_cons (pe_mk c_Graph hr (by decide) rfl (pa_cons (pv 0) (pa_cons (pv 1) pa_nil))) (pa_cons (pv 2) pa_nil)))))))
      (fun a oe cls d pn hz hf => pss_one (ps_ret (pe_not (by exact (pe_callB (call_isE2 T.excC hz hf) (by rfl) T.zisinstance (by decide +kernel) (pa_cons (pv 3) (pa_cons (pe_glob (v := .ref CB) rfl T.gBadArgument rfl) pa_nil))))))))
      (pss_one (ps_ret pe_bl))), ?_⟩
    refine ⟨_, rfl, _, rfl, fun x dx nx ndx ne => ⟨x, a, dx, n, es, rfl, upd_same, hn, hLa.pex (made_ex0 nx ndx), hes, fun H' e l hb hx' hl => ⟨rfl, _, rfl, x, k, rowsOf n es, rfl, made_at hx' hl, by rw [rows_len]; exact hn8, hk, ?_⟩⟩⟩
    refine ⟨true, T.eT, fun _ a0 na0 => ?_, fun q => Bool.noConfusion q⟩
    refine ⟨_, rfl, rfl, rfl, .ref CB, .ref CB, false, rfl, fun u r => r, T.isB, ?_⟩
    exact ⟨false, rfl, q _ (made_ex nx ndx hb)⟩
end
end K67
set_option Elab.async false
set_option linter.all false
set_option maxRecDepth 100000
set_option maxHeartbeats 2000000
namespace K67
open PySem PySem.Spec PyProof.Rows L2
open K67M (Gr comp IsPos Holds Gf Ok Reach srt ins del Via qs El)
theorem nbr_nodup {n v : Nat} {es : List (Nat × Nat)} (h : EdgesOk n es) : (nbr es v).Nodup := by
  unfold nbr
  rw [List.nodup_iff_pairwise_ne, List.pairwise_flatMap]
  have key : ∀ (e : Nat × Nat) (x : Nat), x ∈ ((if v = e.1 then [e.2] else []) ++ (if v = e.2 then [e.1] else []) : List Nat) → (v = e.1 ∧ x = e.2) ∨ (v = e.2 ∧ x = e.1) := fun e x hx => by
    rcases List.mem_append.mp hx with z | z
    · by_cases y : v = e.1
      · rw [if_pos y, List.mem_singleton] at z
        exact .inl ⟨y, z⟩
      · rw [if_neg y] at z
        cases z
    · by_cases y : v = e.2
      · rw [if_pos y, List.mem_singleton] at z
        exact .inr ⟨y, z⟩
      · rw [if_neg y] at z
        cases z
  constructor
  · intro e he
    have hee := h.2 e he
    by_cases y : v = e.1
    · rw [if_pos y, if_neg (by omega), List.append_nil]
      exact List.pairwise_singleton _ _
    · rw [if_neg y, List.nil_append]
      by_cases z : v = e.2
      · rw [if_pos z]
        exact List.pairwise_singleton _ _
      · rw [if_neg z]
        exact .nil
  · refine List.Pairwise.imp_of_mem ?_ h.1
    intro e f he hf lt x hx y hy q
    subst q
    have h1 := h.2 e he
    have h2 := h.2 f hf
    unfold eLt at lt
    rcases key e x hx with ⟨a1, a2⟩ | ⟨a1, a2⟩ <;> rcases key f x hy with ⟨b1, b2⟩ | ⟨b1, b2⟩ <;> omega
theorem rows_nd {n : Nat} {es : List (Nat × Nat)} (h : EdgesOk n es) : RowsNd (rowsOf n es) := fun r hr => by
  obtain ⟨v, _, rfl⟩ := List.mem_map.mp hr
  exact (K67M.srt_perm _).nodup_iff.mpr (nbr_nodup h)
section
variable {P : Program} {w : World} {K : PySem.W.Frag} {mg : Str → Option Value} {base : Heap} {C CT CB : Addr}
def spTold (C : Addr) : Sp := fun vs H Q _ => ∃ (g a : Addr) (k : Nat) (rows : List (List Nat)) (qs : List K67M.Pos), vs = [.ref g, nI k, .ref a] ∧ GraphAt C H g rows ∧ Ok rows.length (gr rows) ∧ rows.length ≤ 8 ∧ k ≤ 9 ∧ LOf PosV H a qs ∧ Sor qs ∧
  (∀ p, p ∈ qs ↔ Gf (gr rows) rows.length k p) ∧ qs.length ≤ 1000000 ∧ ∀ H', Ex H H' → Q (.bl true) H'
theorem LOf.qex {H H' : Hp} {a : Addr} {ps : List K67M.Pos} (h : LOf PosV H a ps) (e : Ex H H') : LOf PosV H' a ps := h.ex (fun e z => z.tm (Tm.of e)) e
theorem sc_law_told_right : FnScope ["_law_graph", "_law_k", "_law_due", "_law_told"] ["_law_graph", "_law_k", "_law_due"] (defScope (top 49)) := ⟨rfl, rfl, rfl, by decide +kernel, rfl, by decide +kernel, by decide +kernel⟩
theorem cal_law_told_right (T : Txt K mg C CT CB) (D : Df K mg "_law_told_right" 49) (c_greatest_refuge : Cal P w K mg base 4 "greatest_refuge" (spGreat C)) (c_is_refuge : Cal P w K mg base 5 "is_refuge" (spIsRef C))
    (c_law_equal : Cal P w K mg base 7 "_law_equal" (spEq (RL (RT (RT R0))))) : Cal P w K mg base 8 "_law_told_right" (spTold C) := by
  refine cal_mk D sc_law_told_right (fun _ _ _ _ _ _ us hl => match us, hl with | [_, _, _], _ => rfl) (fun vs H Q E h => ?_) (fun f cdv A outer s H vs Q E hr h => ?_)
  · obtain ⟨g, a, k, rows, qs, rfl, _⟩ := h
    rfl
  · obtain ⟨g, a, k, rows, qs, rfl, hG, ok, hn, hk, hLa, hso, hgf, hl, q⟩ := h
    obtain ⟨xs, ha, hxs⟩ := id hLa
    have hxl : xs.length = qs.length := Paired.length hxs
    have hsh : ∀ p ∈ qs, Short p := fun p hp => IsPos.short (gf_pos ((hgf p).mp hp)).1 (by omega)
    refine ⟨_, (pss_cons (ps_set (i := 3) sc_law_told_right.nd rfl (.inl rfl) (pe_c c_greatest_refuge hr (by decide) rfl (pa_cons (pv 0) (pa_cons (pv 1) pa_nil))))
      (pss_cons (ps_if (pt_cmpR op_eq (pe_callB (lenK K) (by rfl) T.zlen PySem.boot_len (pa_cons (pv 2) pa_nil)) pe_int (nomark _)) (pss_one (ps_ret (pe_cmpR op_isN (pv 3) pe_non (nomark _)))) pss_nil)
      (pss_cons (ps_if (PW.pt (pw_or (pt_not (pt_val (pe_c c_law_equal hr (by decide) rfl (pa_cons (pv 3) (pa_cons (pv 2) pa_nil))))) (pw_or1 (pt_cmpR op_isnot_bl (pe_c c_is_refuge hr (by decide) rfl (pa_cons (pv 0) (pa_cons (pv 1) (pa_cons (pv 2) pa_nil)))) pe_bl (nomark _))))) (pss_one (ps_ret pe_bl)) pss_nil)
      (pss_cons (ps_expr (pe_bm PySem.F.plainAttrs_list PySem.F.slot_list_append PySem.F.type_list_append mt_append (pv 3) (pa_cons (pe_tup (pa_cons (pe_tup pa_nil) (pa_cons (pe_tup pa_nil) pa_nil))) pa_nil)))
      (pss_one (ps_ret (pe_c c_law_equal hr (by decide) rfl (pa_cons (pe_c c_greatest_refuge hr (by decide) rfl (pa_cons (pv 0) (pa_cons (pv 1) pa_nil))) (pa_cons (pv 2) pa_nil))))))))), ?_⟩
    refine ⟨_, rfl, _, rfl, g, k, rows, rfl, hG, ok, hn, hk, fun qs' H1 e1 hs' hm' hl' => ?_⟩
    have hqq : qs' = qs := hs'.eq hso fun p => (hm' p).trans (hgf p).symm
    subst hqq
    refine ⟨fun z => ?_, fun z c nc hLc => ?_⟩
    · subst z
      have hx0 : xs.length = 0 := hxl
      refine ⟨_, rfl, a, _, rfl, .inl (in2 (e1 _ _ ha)), rfl, true, congrArg V.bl (decide_eq_true (by rw [hx0]; rfl)), iteT ⟨_, rfl, rfl, ?_⟩⟩
      rw [decide_eq_true (rfl : V.non = V.non)]
      exact q H1 e1
    · have hx0 : xs.length ≠ 0 := fun y => z (List.eq_nil_of_length_eq_zero (by omega))
      refine ⟨_, rfl, a, _, rfl, .inl (in2 (e1 _ _ ha)), rfl, false, congrArg V.bl (decide_eq_false fun y => hx0 (by have : (xs.length : Int) = 0 := V.int.inj y; omega)), iteF ?_⟩
      refine ⟨_, rfl, _, rfl, _, _, rfl, same_lst hLc (hLa.qex e1) hl hsh, true, rfl, iteF ?_⟩
      refine ⟨_, rfl, _, rfl, _, rfl, ⟨g, a, k, rows, qs', rfl, hG.ex e1, ok, hn, hLa.qex e1, z, hso, fun p hp => ⟨(gf_pos ((hgf p).mp hp)).1, (gf_pos ((hgf p).mp hp)).2.mono fun p hp => (hgf p).mpr hp⟩, hl, fun H2 e2 => ?_⟩, k, _, _, rfl, hk⟩
      refine ⟨true, true, rfl, rfl, false, rfl, iteF ?_⟩
      obtain ⟨cx, hc, hcx⟩ := id hLc
      have hc2 := e2 _ _ hc
      have hcl : cx.length = qs'.length := Paired.length hcx
      have e12 := e1.trans e2
      refine ⟨_, rfl, .inl ⟨rfl, _, in2 hc2⟩, Nat.zero_le _, fun t1 nt1 => ⟨Nat.zero_le _, fun t2 nt2 => ⟨small (by show 2 ≤ 10000000; decide), fun t3 nt3 => ?_⟩⟩⟩
      have e3 := ((ex_new (o := .tup []) nt1).trans (ex_new (o := .tup []) nt2)).trans (ex_new (o := .tup [V.ref t1, V.ref t2]) nt3)
      have hc3 := e3 _ _ hc2
      by_cases hcs : cx.length < sizeLine
      · refine ⟨c, cx, _, rfl, rfl, hc3, hcs, ?_⟩
        have e4 := ex_mut (o := .lst (cx ++ [.ref t3])) (e12.trans e3) nc
        generalize upd (upd (upd (upd H2 t1 (.tup [])) t2 (.tup [])) t3 (.tup [V.ref t1, V.ref t2])) c (.lst (cx ++ [.ref t3])) = H4 at e4 ⊢
        refine ⟨_, rfl, _, rfl, g, k, rows, rfl, hG.ex e4, ok, hn, hk, fun qs2 H5 e5 hs2 hm2 hl2 => ?_⟩
        have hq2 : qs2 = qs' := hs2.eq hso fun p => (hm2 p).trans (hgf p).symm
        subst hq2
        refine ⟨fun y => absurd y z, fun _ c2 nc2 hLc2 => ?_⟩
        exact ⟨_, rfl, _, _, rfl, same_lst hLc2 (hLa.qex (e4.trans e5)) hl hsh, q H5 (e4.trans e5)⟩
      · exact absurd (smallT (by omega)) hcs
end
end K67
set_option Elab.async false
set_option linter.all false
set_option maxRecDepth 100000
set_option maxHeartbeats 2000000
namespace K67
open PySem PySem.Spec PyProof.Rows L2
open K67M (Gr comp IsPos Holds Gf Ok Reach srt ins del Via qs El)
theorem ne_same {a b : V} [inst : Decidable (a = b)] (h : a = b) : V.bl (!decide (a = b)) = V.bl false := by
  rw [decide_eq_true h]
  rfl
theorem seq_setP {te : TE} {j : Nat} {b : TS} {D : Ends} {σ : L2.St} {H : Hp} (Pr : Nat → Hp → Prop) (h : ∀ Q' : VK, (∀ n H', Pr n H' → Q' (nI n) H') → te σ H Q') (k : ∀ n H', Pr n H' → b D (σ.set j (some (nI n))) H') : tSeq (tAsg te (gName j)) b D σ H := h _ k
theorem draw_read {d nl : Addr} {k : Nat} {σ : L2.St} {H : Hp} {Q : VK} (c : Nat) (hσ : σ[k]? = some (some (.ref d))) (hD : Dr H d nl) (hc : 0 < c) (q : ∀ n H', n < c ∧ Dw d nl H H' → Q (nI n) H') :
    tOp (rI (fun _ j => 0 < j) fun i j => V.int (i % j)) (tCall spDraw [] E0 (tCons (tVar k) tNil)) (tC (.int (c : Int))) σ H Q := by
  refine ⟨_, hσ, d, nl, rfl, hD, fun r H1 hr hD1 hx _ => ⟨_, _, rfl, rfl, by omega, ?_⟩⟩
  have h1 := Int.emod_nonneg r (b := (c : Int)) (by omega)
  have h2 := Int.emod_lt_of_pos r (b := (c : Int)) (by omega)
  obtain ⟨n, hn⟩ := Int.eq_ofNat_of_zero_le h1
  rw [hn] at h2
  have q2 := q n H1 ⟨by omega, hx, hD1⟩
  unfold nI at q2
  rw [← hn] at q2
  exact q2
theorem draw_add_read {d nl : Addr} {k : Nat} {σ : L2.St} {H : Hp} {Q : VK} (lo c : Nat) (hσ : σ[k]? = some (some (.ref d))) (hD : Dr H d nl) (hc : 0 < c) (q : ∀ n H', (lo ≤ n ∧ n < lo + c) ∧ Dw d nl H H' → Q (nI n) H') :
    tOp (rI0 fun i j => V.int (i + j)) (tC (.int (lo : Int))) (tOp (rI (fun _ j => 0 < j) fun i j => V.int (i % j)) (tCall spDraw [] E0 (tCons (tVar k) tNil)) (tC (.int (c : Int)))) σ H Q := by
  show tOp (rI (fun _ j => 0 < j) fun i j => V.int (i % j)) (tCall spDraw [] E0 (tCons (tVar k) tNil)) (tC (.int (c : Int))) σ H _
  refine draw_read c hσ hD hc fun n H' h => ⟨_, _, rfl, rfl, ?_⟩
  have q2 := q (lo + n) H' ⟨⟨by omega, by omega⟩, h.2⟩
  unfold nI at q2
  rw [show ((lo + n : Nat) : Int) = (lo : Int) + (n : Int) by omega] at q2
  exact q2
theorem seq_ifs {I : Hp → Prop} {J : L2.St → Hp → Prop} {t : TT} {a b rest : TS} {D : Ends} {σ : L2.St} {H : Hp} (ht : Any I σ t) (ha : ∀ (D' : Ends) H, I H → (∀ σ' H', J σ' H' → D'.nx σ' H') → a D' σ H) (hb : ∀ (D' : Ends) H, I H → (∀ σ' H', J σ' H' → D'.nx σ' H') → b D' σ H)
    (k : ∀ σ' H', J σ' H' → rest D σ' H') (hI : I H) : tSeq (tIfS t a b) rest D σ H :=
  Any.ifs ht (fun H1 h1 => ha { D with nx := rest D } H1 h1 k) (fun H1 h1 => hb { D with nx := rest D } H1 h1 k) H hI
theorem LOf.dr {α : Type} {T : Hp → V → α → Prop} {H H' : Hp} {a d nl : Addr} {es : List α} (hT : ∀ v e, T H v e → ∃ p, v = V.ref p) (m : ∀ v e, T H v e → T H' v e) (h : LOf T H a es) (hd : Dr H d nl) (e : Exb d H H') : LOf T H' a es := by
  obtain ⟨xs, h1, h2⟩ := h
  refine ⟨xs, e _ _ (hd.ne_refs h1 fun x hx => ?_) h1, L2.Paired.mapP h2 fun _ _ z => m _ _ z⟩
  obtain ⟨i, hi, ei⟩ := List.mem_iff_getElem.mp hx
  obtain ⟨y, _, hR⟩ := paired_get h2 ((List.getElem?_eq_getElem hi).trans (congrArg some ei))
  exact hT _ _ hR
theorem LOf.pdr {H H' : Hp} {a d nl : Addr} {es : List (Nat × Nat)} (h : LOf PairV H a es) (hd : Dr H d nl) (e : Exb d H H') : LOf PairV H' a es := h.dr (fun v _ z => z.elim fun p z => ⟨p, z.1⟩) (fun v _ z => z.tm (hd.tm e)) hd e
theorem LOf.rdr {H H' : Hp} {a d nl : Addr} {es : List (List Nat)} (h : LOf LstN H a es) (hd : Dr H d nl) (e : Exb d H H') : LOf LstN H' a es := h.dr (fun v _ z => z.elim fun p z => ⟨p, z.1⟩) (fun v _ z => z.dr hd e) hd e
theorem LOf.qdr {H H' : Hp} {a d nl : Addr} {es : List K67M.Pos} (h : LOf PosV H a es) (hd : Dr H d nl) (e : Exb d H H') : LOf PosV H' a es := h.dr (fun v _ z => z.elim fun p z => z.elim fun _ z => z.elim fun _ z => ⟨p, z.1⟩) (fun v _ z => z.tm (hd.tm e)) hd e
theorem GraphAt.dr {C : Addr} {H H' : Hp} {g d nl : Addr} {rows : List (List Nat)} (h : GraphAt C H g rows) (hd : Dr H d nl) (e : Exb d H H') : GraphAt C H' g rows := by
  obtain ⟨dx, ed, l, h1, h2⟩ := h
  refine ⟨dx, ed, l, e _ _ (fun z => ?_) h1, h2.rdr hd e⟩
  obtain ⟨ms, i, q, _⟩ := hd
  rw [z, q] at h1
  cases h1
def prv (n i : Nat) : Nat := if i = 0 then n - 1 else i - 1
def ring (n : Nat) : List (Nat × Nat) := (List.range n).map fun i => (i, prv n i)
theorem ring_ok {n : Nat} (h : 3 ≤ n) : (ring n).Nodup ∧ (∀ e ∈ ring n, e.1 < n ∧ e.2 < n ∧ e.1 ≠ e.2) ∧ ∀ e ∈ ring n, ∀ f ∈ ring n, ¬ (e.1 = f.2 ∧ e.2 = f.1) := by
  unfold ring
  refine ⟨?_, fun e he => ?_, fun e he f hf z => ?_⟩
  · rw [List.nodup_iff_pairwise_ne, List.pairwise_map]
    exact List.pairwise_lt_range.imp fun {i j} hij e => by
      have : i = j := congrArg Prod.fst e
      omega
  · obtain ⟨i, hi, rfl⟩ := List.mem_map.mp he
    rw [List.mem_range] at hi
    show i < n ∧ prv n i < n ∧ i ≠ prv n i
    unfold prv
    split <;> omega
  · obtain ⟨i, hi, rfl⟩ := List.mem_map.mp he
    obtain ⟨j, hj, rfl⟩ := List.mem_map.mp hf
    rw [List.mem_range] at hi hj
    have z1 : i = prv n j := z.1
    have z2 : prv n i = j := z.2
    unfold prv at z1 z2
    split at z1 <;> split at z2 <;> omega
theorem atI_prv {n i : Nat} {l : List Nat} (hp : l.Perm (List.range n)) (hi : i < n) : atI (nL l) ((i : Int) - 1) = some (nI (l.getD (prv n i) 0)) := by
  unfold prv
  by_cases z : i = 0
  · subst z
    rw [if_pos rfl]
    have hl : l.length = n := by
      have := hp.length_eq
      rw [List.length_range] at this
      exact this
    have hne : l ≠ [] := fun y => by
      rw [y] at hl
      simp at hl
      omega
    rcases List.eq_nil_or_concat l with e | ⟨m, b, e⟩
    · exact absurd e hne
    · rw [List.concat_eq_append] at e
      subst e
      have : (m ++ [b]).getD (n - 1) 0 = b := by
        rw [← hl, List.getD_eq_getElem?_getD]
        simp
      rw [this, nL_app]
      exact atI_last _ _
  · rw [if_neg z, show ((i : Int) - 1) = ((i - 1 : Nat) : Int) by omega]
    exact atI_nat (getD_at hp (by omega))
section
variable {P : Program} {w : World} {K : PySem.W.Frag} {mg : Str → Option Value} {base : Heap} {C CT CB : Addr}
def spGreatR : Sp := fun vs H Q _ => ∃ (d nl : Addr), vs = [.ref d] ∧ Dr H d nl ∧ ∀ H', Dw d nl H H' → Q (.bl true) H'
theorem sc_law_great_right : FnScope ["_law_draws", "_law_n", "_law_edges_here", "_law_order_here", "_law_k", "_law_due", "_law_v"] ["_law_draws"] (defScope (top 50)) := ⟨rfl, rfl, rfl, by decide +kernel, rfl, by decide +kernel, by decide +kernel⟩
theorem cal_law_great_right (T : Txt K mg C CT CB) (D : Df K mg "_law_great_right" 50) (c_law_draw : Cal P w K mg base 2 "_law_draw" spDraw) (c_law_edges : Cal P w K mg base 4 "_law_edges" spLEdges) (c_law_order : Cal P w K mg base 3 "_law_order" spOrder) (c_law_near : Cal P w K mg base 1 "_law_near" spNear)
    (c_law_greatest : Cal P w K mg base 3 "_law_greatest" spLGreat) (c_law_told_right : Cal P w K mg base 8 "_law_told_right" (spTold C)) (c_Graph : Mak P w K mg base 4 "Graph" C (spInit C)) : Cal P w K mg base 9 "_law_great_right" spGreatR := by
  refine cal_mk D sc_law_great_right (fun _ _ _ _ _ _ us hl => match us, hl with | [_], _ => rfl) (fun vs H Q E h => ?_) (fun f cdv A outer s H vs Q E hr h => ?_)
  · obtain ⟨d, nl, rfl, _⟩ := h
    rfl
  · obtain ⟨d, nl, rfl, hD, q⟩ := h
    refine ⟨_, (pss_cons (ps_set (i := 1) sc_law_great_right.nd rfl (.inl rfl) (pe_op op_add pe_int (pe_op op_mod (pe_c c_law_draw hr (by decide) rfl (pa_cons (pv 0) pa_nil)) pe_int)))
      (pss_cons (ps_set (i := 2) sc_law_great_right.nd rfl (.inl rfl) (pe_c c_law_edges hr (by decide) rfl (pa_cons (pv 0) (pa_cons (pv 1) pa_nil))))
      (pss_cons (ps_if (pt_cmpR op_eq (pe_op op_mod (pe_c c_law_draw hr (by decide) rfl (pa_cons (pv 0) pa_nil)) pe_int) pe_int (nomark _)) (pss_cons (ps_set (i := 3) sc_law_great_right.nd rfl (.inr rfl) (pe_c c_law_order hr (by decide) rfl (pa_cons (pv 0) (pa_cons (pv 1) pa_nil))))
      (pss_one (ps_set (i := 2) sc_law_great_right.nd rfl (.inl rfl) (pe_callB (cr_sortD encE) (by rfl) T.zsorted (by decide +kernel) (pa_cons (pe_lc (own := [("_law_v", 6)]) rfl sc_law_great_right.nd (pi_range1 rfl T.zrange (pa_cons (pv 1) pa_nil)) (blkOk_by (N := ["_law_draws", "_law_n", "_law_edges_here", "_law_order_here", "_law_k", "_law_due", "_law_v"]) (sc := defScope (top 50)) (by decide +kernel)) (fun _ _ _ _ _ => (pg_name (i := 6) sc_law_great_right.nd rfl (by first | exact .inl rfl | exact .inr rfl))) (fun _ _ _ _ _ => pts_nil) (fun _ _ _ _ _ => (pe_tup (pa_cons (pe_callB (call_min2 rfl) (by rfl) T.zmin (by decide +kernel) (pa_cons (pe_ix (ixLK K) (pv 3) (pv 6) (fun _ _ => rfl)) (pa_cons (pe_ix (ixLK K) (pv 3) (pe_op op_sub (pv 6) pe_int) (fun _ _ => rfl)) pa_nil))) (pa_cons (pe_callB (call_max2 rfl) (by rfl) T.zmax (by decide +kernel) (pa_cons (pe_ix (ixLK K) (pv 3) (pv 6) (fun _ _ => rfl)) (pa_cons (pe_ix (ixLK K) (pv 3) (pe_op op_sub (pv 6) pe_int) (fun _ _ => rfl)) pa_nil))) pa_nil))))) pa_nil))))) pss_nil)
      (pss_cons (ps_set (i := 4) sc_law_great_right.nd rfl (.inl rfl) (pe_op op_mod (pe_c c_law_draw hr (by decide) rfl (pa_cons (pv 0) pa_nil)) pe_int))
      (pss_cons (ps_set (i := 5) sc_law_great_right.nd rfl (.inl rfl) (pe_c c_law_greatest hr (by decide) rfl (pa_cons (pe_c c_law_near hr (by decide) rfl (pa_cons (pv 1) (pa_cons (pv 2) pa_nil))) (pa_cons (pv 4) pa_nil))))
      (pss_cons (ps_if (PW.pt (pw_and (pt_cmpR op_lt (pv 4) pe_int (nomark _)) (pw_and1 (pt_cmpR op_ne (pe_cmpR op_gt (pe_callB (lenK K) (by rfl) T.zlen PySem.boot_len (pa_cons (pv 5) pa_nil)) pe_int (nomark _)) (pe_or (pe_cmpR op_eq (pv 4) pe_int (nomark _)) (pe_one (pe_cmpR op_gt (pe_callB (lenK K) (by rfl) T.zlen PySem.boot_len (pa_cons (pv 2) pa_nil)) pe_int (nomark _)))) (nomark _))))) (pss_one (ps_ret pe_bl)) pss_nil)
      (pss_one (ps_ret (pe_c c_law_told_right hr (by decide) rfl (pa_cons (pe_mk c_Graph hr (by decide) rfl (pa_cons (pv 1) (pa_cons (pe_callTy (lstK K) (by rfl) T.zlist (by decide +kernel) (pa_cons (pv 2) pa_nil)) pa_nil))) (pa_cons (pv 4) (pa_cons (pv 5) pa_nil)))))))))))), ?_⟩
    refine seq_setP (fun n H' => (7 ≤ n ∧ n < 7 + 2) ∧ Dw d nl H H') (fun Q' q' => draw_add_read 7 2 rfl hD (by decide) q') fun n H1 h1 => ?_
    obtain ⟨hn, w1⟩ := h1
    refine ⟨_, rfl, _, rfl, d, nl, n, rfl, w1.dr, by omega, fun H2 p es w2 np hL hes => ?_⟩
    have w12 := w1.trans w2
    refine seq_ifs (I := fun H' => Dw d nl H H' ∧ LOf PairV H' p es) (J := fun σ' H' => ∃ (o3 : Option V) (p : Addr) (es : List (Nat × Nat)), σ' = [some (.ref d), some (nI n), some (.ref p), o3, none, none, none] ∧ Dw d nl H H' ∧ LOf PairV H' p es ∧ EdgesOk n es)
      (Any.eq (IntE.mod (IntE.draw (nl := nl) (fun H h => h.1.dr) (fun H H' h hd he => ⟨h.1.trans ⟨he, hd⟩, ?_⟩) rfl) IntE.c fun i j _ e => by rw [e]; exact ⟨by decide, by decide⟩) IntE.c) (fun D' H3 h3 k3 => ?_) (fun D' H3 h3 k3 => ?_) (fun σ' H' hJ => ?_) ⟨w12, hL⟩
    · exact h.2.pdr h.1.dr he
    · refine ⟨_, rfl, _, rfl, d, nl, n, rfl, h3.1.dr, by omega, fun H4 O l w4 nO hO hpm => ?_⟩
      refine ⟨_, rfl, _, rfl, by omega, by omega, fun Dl nDl => ?_⟩
      rw [show ((n : Nat) : Int).toNat = n from Int.toNat_natCast _]
      refine lc_tmR (S := PairV) (f := fun _ => true) (g := fun i => mm l (i, prv n i)) (fun _ _ _ _ e h => h.tm e) nDl (by omega) (fun _ => rfl) (fun i hi => lc_all fun H5 e5 Q' q' => ?_) fun H5 ys e5 hDl hys => ?_
      · rw [show (V.int (0 + (i : Int))) = nI i by unfold nI; rw [Int.zero_add]]
        have g1 := getD_at hpm hi
        have g2 := atI_prv hpm hi
        have hO5 := e5 _ _ hO
        refine ⟨_, rfl, _, rfl, O, _, _, _, rfl, rfl, in2 hO5, atI_nat g1, _, rfl, _, rfl, _, _, rfl, rfl, O, _, _, _, rfl, rfl, in2 hO5, g2, _, _, rfl, ?_⟩
        refine ⟨_, rfl, _, rfl, O, _, _, _, rfl, rfl, in2 hO5, atI_nat g1, _, rfl, _, rfl, _, _, rfl, rfl, O, _, _, _, rfl, rfl, in2 hO5, g2, _, _, rfl, ?_⟩
        rw [minI, maxI]
        exact ⟨small (by show 2 ≤ 10000000; decide), fun t nt => q' _ _ (ex_new nt) ⟨t, rfl, upd_same⟩⟩
      · rw [filter_true] at hys
        refine sortE_read hr.units hDl hys fun zs p4 hzs np4 => ?_
        have hrg := ring_ok (n := n) (by omega)
        have hmm := mm_ok hpm hrg.1 hrg.2.1 hrg.2.2
        have w5 := (h3.1.trans w4).trans (.of w4.dr e5)
        refine k3 _ _ ⟨_, p4, ((List.range n).map fun i => mm l (i, prv n i)).mergeSort edgeLe, rfl, w5.trans (.of w5.dr (ex_new np4)), ⟨zs, upd_same, L2.Paired.mapP hzs fun _ _ z => z.tm (Tm.of (ex_new np4))⟩, ?_⟩
        unfold ring at hmm
        rw [List.map_map] at hmm
        exact sorted_edges hmm.1 hmm.2
    · exact k3 _ _ ⟨none, p, es, rfl, h3.1, h3.2, hes⟩
    · obtain ⟨o3, p, es, rfl, w3, hL3, hes⟩ := hJ
      refine seq_setP (fun k H4 => k < 3 ∧ Dw d nl H' H4) (fun Q' q' => draw_read 3 rfl w3.dr (by decide) q') fun k H4 h4 => ?_
      obtain ⟨hk, w4⟩ := h4
      have hL4 := hL3.pdr w3.dr w4.ex
      have w34 := w3.trans w4
      have okG := gr_ok hes
      refine ⟨_, rfl, _, rfl, p, n, es, rfl, by omega, hL4, hes, fun H5 nr e5 nnr hrows => ?_⟩
      refine ⟨_, rfl, nr, k, rowsOf n es, rfl, hrows, by rw [rows_len]; exact okG, rows_nd hes, by rw [rows_len]; omega, by omega, fun H6 du qs e6 ndu hdu hso hgf hql => ?_⟩
      rw [rows_len] at hgf
      have e56 := e5.trans e6
      obtain ⟨xs, hdx, hxs⟩ := id hdu
      have hxl : xs.length = qs.length := Paired.length hxs
      obtain ⟨ex, hex, hexs⟩ := id (hL4.pex e56)
      have hel : ex.length = es.length := Paired.length hexs
      have w6 := w34.trans (.of w4.dr e56)
      have fin : ∀ {σ D} , σ = [some (V.ref d), some (nI n), some (.ref p), o3, some (nI k), some (.ref du), none] → D.rt = Q → tRet (tCall (spTold C) [] E0 (tCons (tMake C (spInit C) [] E0 (tCons (tVar 1) (tCons (tCB (rLstK K) (tCons (tVar 2) tNil)) tNil))) (tCons (tVar 4) (tCons (tVar 5) tNil)))) D σ H6 := fun hσ hQ => by
        subst hσ
        refine ⟨_, rfl, _, rfl, p, _, rfl, .inl (in2 hex), fun lc nlc => ?_⟩
        have e7 := ex_new (o := .lst ex) nlc
        refine fun x dx nx ndx ne => ⟨x, lc, dx, n, es, rfl, upd_same, by omega, ?_, hes, fun H8 e l hb hx' hl => ⟨rfl, ?_⟩⟩
        · exact ⟨ex, made_ex0 nx ndx _ _ upd_same, L2.Paired.mapP hexs fun _ _ z => z.tm ((Tm.of e7).trans (Tm.of (made_ex0 nx ndx)))⟩
        · have e78 := e7.trans (made_ex nx ndx hb)
          refine ⟨_, rfl, _, rfl, x, du, k, rowsOf n es, qs, rfl, made_at hx' hl, by rw [rows_len]; exact okG, by rw [rows_len]; omega, by omega, hdu.qex e78, hso, fun p => by rw [rows_len]; exact hgf p, hql, fun H9 e9 => ?_⟩
          rw [hQ]
          exact q H9 (w6.trans (.of w6.dr (e78.trans e9)))
      have hnon : (∃ p, Gf (gr (rowsOf n es)) n k p) ↔ 0 < qs.length := by
        constructor
        · rintro ⟨p, hp⟩
          exact List.length_pos_of_mem ((hgf p).mpr hp)
        · intro h
          obtain ⟨p, hp⟩ := List.exists_mem_of_length_pos h
          exact ⟨p, (hgf p).mp hp⟩
      refine ⟨_, rfl, _, _, rfl, rfl, _, rfl, ?_⟩
      refine ite2 (fun c1 => ?_) (fun c1 => iteF (fin rfl rfl))
      have hk2 : k < 2 := by
        have := of_decide_eq_true c1
        omega
      refine ⟨_, rfl, du, _, rfl, .inl (in2 hdx), _, _, rfl, rfl, ?_⟩
      refine ⟨_, rfl, rfl, decide (nI k = V.int 0), rfl, ?_⟩
      refine ite2 (fun c2 => ?_) (fun c2 => ?_)
      · have hk0 : k = 0 := by
          have := V.int.inj (of_decide_eq_true c2)
          omega
        have hpos : 0 < qs.length := hnon.mp (by rw [hk0]; exact K67M.gf_zero okG (by omega))
        refine ⟨rfl, false, ?_, iteF (fin rfl rfl)⟩
        exact ne_same (congrArg V.bl (decide_eq_true (show (0 : Int) < (xs.length : Int) by omega)))
      · have hk1 : k = 1 := by
          have : k ≠ 0 := fun z => c2 (decide_eq_true (by rw [z]; rfl))
          omega
        refine ⟨_, rfl, p, _, rfl, .inl (in2 hex), _, _, rfl, rfl, rfl, false, ?_, iteF (fin rfl rfl)⟩
        have hiff : (0 : Int) < (xs.length : Int) ↔ (0 : Int) < (ex.length : Int) := by
          rw [hxl, hel]
          have h1 : 0 < qs.length ↔ 0 < es.length := by
            rw [← hnon, hk1, K67M.gf_one okG]
            constructor
            · rintro ⟨u, v, g⟩
              obtain ⟨_, h | h⟩ := gr_rows.mp g
              · exact List.length_pos_of_mem h
              · exact List.length_pos_of_mem h
            · intro h
              obtain ⟨e, he⟩ := List.exists_mem_of_length_pos h
              have := hes.2 e he
              exact ⟨e.1, e.2, gr_rows.mpr ⟨by omega, .inl he⟩⟩
          omega
        have hd : decide ((0 : Int) < (xs.length : Int)) = decide ((0 : Int) < (ex.length : Int)) := by
          rw [Bool.eq_iff_iff, decide_eq_true_eq, decide_eq_true_eq]
          exact hiff
        exact ne_same (congrArg V.bl hd)
end
end K67
set_option Elab.async false
set_option linter.all false
set_option maxRecDepth 100000
set_option maxHeartbeats 2000000
namespace K67
open PySem PySem.Spec PyProof.Rows L2
open K67M (Gr comp IsPos Holds Gf Ok Reach srt ins del Via qs El)
theorem draw_eq {d nl : Addr} {k : Nat} {σ : L2.St} {H : Hp} {Q : Bool → Hp → Prop} (c : Nat) (m : Int) (hσ : σ[k]? = some (some (.ref d))) (hD : Dr H d nl) (hc : 0 < c) (q : ∀ b H', Dw d nl H H' → Q b H') :
    tTest (tOp rEq (tOp (rI (fun _ j => 0 < j) fun i j => V.int (i % j)) (tCall spDraw [] E0 (tCons (tVar k) tNil)) (tC (.int (c : Int)))) (tC (.int m))) σ H Q :=
  draw_read c hσ hD hc fun n H' h => ⟨rfl, _, rfl, q _ H' h.2⟩
theorem seq_if_and {J : Hp → Prop} {t u : TT} {a rest : TS} {D : Ends} {σ : L2.St} {H : Hp} (ht : ∀ Q : Bool → Hp → Prop, (∀ b H', J H' → Q b H') → t σ H Q) (hu : ∀ H', J H' → ∀ Q : Bool → Hp → Prop, (∀ H'', J H'' → Q false H'') → u σ H' Q)
    (k : ∀ H', J H' → rest D σ H') : tSeq (tIfS (tAnd t u) a tNext) rest D σ H := ht _ fun b H' h => by
  cases b with
  | true => exact iteT (hu H' h _ fun H'' h2 => iteF (k H'' h2))
  | false => exact iteF (iteF (k H' h))
theorem path_ok : EdgesOk 8 ((List.range 7).map fun i => (i, i + 1)) := by
  refine ⟨?_, fun e he => ?_⟩
  · rw [List.pairwise_map]
    exact List.pairwise_lt_range.imp fun {i j} h => .inl h
  · obtain ⟨i, hi, rfl⟩ := List.mem_map.mp he
    rw [List.mem_range] at hi
    exact ⟨Nat.lt_succ_self i, by show i + 1 < 8; omega⟩
theorem path_no (p : K67M.Pos) : ¬ Gf (gr (rowsOf 8 ((List.range 7).map fun i => (i, i + 1)))) 8 2 p := by
  refine K67M.gf_path (gr_ok path_ok) (fun u v g => ?_) p
  obtain ⟨_, h | h⟩ := gr_rows.mp g
  · obtain ⟨i, _, e⟩ := List.mem_map.mp h
    have h1 : i = u := congrArg Prod.fst e
    have h2 : i + 1 = v := congrArg Prod.snd e
    omega
  · obtain ⟨i, _, e⟩ := List.mem_map.mp h
    have h1 : i = v := congrArg Prod.fst e
    have h2 : i + 1 = u := congrArg Prod.snd e
    omega
section
variable {P : Program} {w : World} {K : PySem.W.Frag} {mg : Str → Option Value} {base : Heap} {C CT CB : Addr}
def spLaw (K : PySem.W.Frag) : Sp := fun vs H Q _ => ∃ (a : Addr) (ns : List Int), vs = [.ref a] ∧ SqL K H a (ns.map V.int) ∧ ns.length ≤ 63 ∧ ∀ H', Q (.bl true) H'
theorem sc_law : FnScope ["_law_script", "_law_draws", "_law_great", "_law_n", "_law_edges_here", "_law_near_here", "_law_graph", "_law_width_here", "_law_again", "_law_k", "_law_due", "_law_v"] ["_law_script"] (defScope (top 51)) := ⟨rfl, rfl, rfl, by decide +kernel, rfl, by decide +kernel, by decide +kernel⟩
theorem ok_law {f : Addr} {fd : FuncData} (T : Txt K mg C CT CB) (F : FunD K "law" "law" (defArgs (top 51)) (defBody (top 51)) (defScope (top 51)) [] [] f fd) (c_law_numbers : Cal P w K mg base 2 "_law_numbers" (spNumbers K)) (c_law_draw : Cal P w K mg base 2 "_law_draw" spDraw) (c_law_too_large : Cal P w K mg base 6 "_law_too_large" spTooLarge) (c_law_edges : Cal P w K mg base 4 "_law_edges" spLEdges)
    (c_law_near : Cal P w K mg base 1 "_law_near" spNear) (c_Graph : Mak P w K mg base 4 "Graph" C (spInit C)) (c_law_width : Cal P w K mg base 2 "_law_width" spWidth) (c_law_greatest : Cal P w K mg base 3 "_law_greatest" spLGreat) (c_law_told_right : Cal P w K mg base 8 "_law_told_right" (spTold C))
    (c_law_great_right : Cal P w K mg base 9 "_law_great_right" spGreatR) (c_greatest_refuge : Cal P w K mg base 4 "greatest_refuge" (spGreat C)) : FnOk P w K mg base CX0 20 f fd ["_law_script"] (spLaw K) := by
  refine F.ok sc_law (fun vs H Q E h => ?_) fun cdv A outer s H vs Q E hr h => ?_
  · obtain ⟨a, ns, rfl, _⟩ := h
    rfl
  · obtain ⟨a, ns, rfl, hs, hl, q⟩ := h
    suffices hh : ∃ t, PSs (cxOf CX0 P w K mg base ["_law_script", "_law_draws", "_law_great", "_law_n", "_law_edges_here", "_law_near_here", "_law_graph", "_law_width_here", "_law_again", "_law_k", "_law_due", "_law_v"] "law" (defScope (top 51)) f cdv A outer s H E).nox (defBody (top 51)) t ∧ t { nx := fun _ H' => Q .non H', rt := Q } (start ["_law_script", "_law_draws", "_law_great", "_law_n", "_law_edges_here", "_law_near_here", "_law_graph", "_law_width_here", "_law_again", "_law_k", "_law_due", "_law_v"] [.ref a]) H by
      obtain ⟨t, a, b⟩ := hh
      exact ⟨t, a.nox, b⟩
    refine ⟨_, (pss_cons (ps_set (i := 1) sc_law.nd rfl (.inl rfl) (pe_lst (pa_cons (pe_c c_law_numbers hr (by decide) rfl (pa_cons (pv 0) pa_nil)) (pa_cons pe_int pa_nil))))
      (pss_cons (ps_set (i := 2) sc_law.nd rfl (.inl rfl) (pe_op op_add pe_int (pe_op op_mod (pe_c c_law_draw hr (by decide) rfl (pa_cons (pv 1) pa_nil)) pe_int)))
      (pss_cons (ps_if (pt_not (pt_val (pe_c c_law_too_large hr (by decide) rfl (pa_cons (pv 2) (pa_cons (pe_ix (ixLK K) (pe_lst (pa_cons (pe_lst (pa_cons (pe_tup (pa_cons pe_int (pa_cons pe_int pa_nil))) pa_nil)) (pa_cons (pe_lst (pa_cons (pe_tup (pa_cons pe_int (pa_cons pe_int pa_nil))) (pa_cons (pe_tup (pa_cons pe_int (pa_cons pe_int pa_nil))) pa_nil))) pa_nil))) (pe_op op_mod (pe_c c_law_draw hr (by decide) rfl (pa_cons (pv 1) pa_nil)) pe_int) (fun _ _ => rfl)) (pa_cons (pe_op op_mod (pe_c c_law_draw hr (by decide) rfl (pa_cons (pv 1) pa_nil)) pe_int) pa_nil)))))) (pss_one (ps_ret pe_bl)) pss_nil)
      (pss_cons (ps_set (i := 3) sc_law.nd rfl (.inl rfl) (pe_op op_mod (pe_c c_law_draw hr (by decide) rfl (pa_cons (pv 1) pa_nil)) pe_int))
      (pss_cons (ps_set (i := 4) sc_law.nd rfl (.inl rfl) (pe_c c_law_edges hr (by decide) rfl (pa_cons (pv 1) (pa_cons (pv 3) pa_nil))))
      (pss_cons (ps_set (i := 5) sc_law.nd rfl (.inl rfl) (pe_c c_law_near hr (by decide) rfl (pa_cons (pv 3) (pa_cons (pv 4) pa_nil))))
      (pss_cons (ps_set (i := 6) sc_law.nd rfl (.inl rfl) (pe_mk c_Graph hr (by decide) rfl (pa_cons (pv 3) (pa_cons (pe_callTy (lstK K) (by rfl) T.zlist (by decide +kernel) (pa_cons (pv 4) pa_nil)) pa_nil))))
      (pss_cons (ps_set (i := 7) sc_law.nd rfl (.inl rfl) (pe_c c_law_width hr (by decide) rfl (pa_cons (pv 5) pa_nil)))
      (pss_cons (ps_for PassesOwn.never rfl (pi_range1 rfl T.zrange (pa_cons pe_int pa_nil)) (pg_name (i := 8) sc_law.nd rfl (.inl rfl)) (pss_cons (ps_set (i := 9) sc_law.nd rfl (.inl rfl) (pe_op op_mod (pe_c c_law_draw hr (by decide) rfl (pa_cons (pv 1) pa_nil)) pe_int))
      (pss_cons (ps_set (i := 10) sc_law.nd rfl (.inl rfl) (pe_c c_law_greatest hr (by decide) rfl (pa_cons (pv 5) (pa_cons (pv 9) pa_nil))))
      (pss_one (ps_if (PW.pt (pw_or (pt_cmpR op_ne (pe_cmpR op_ge (pv 7) (pv 9) (nomark _)) (pe_cmpR op_gt (pe_callB (lenK K) (by rfl) T.zlen PySem.boot_len (pa_cons (pv 10) pa_nil)) pe_int (nomark _)) (nomark _)) (pw_or1 (pt_not (pt_val (pe_c c_law_told_right hr (by decide) rfl (pa_cons (pv 6) (pa_cons (pv 9) (pa_cons (pv 10) pa_nil))))))))) (pss_one (ps_ret pe_bl)) pss_nil)))))
      (pss_cons (ps_if (PW.pt (pw_and (pt_cmpR op_eq (pe_op op_mod (pe_c c_law_draw hr (by decide) rfl (pa_cons (pv 1) pa_nil)) pe_int) pe_int (nomark _)) (pw_and1 (pt_not (pt_val (pe_c c_law_great_right hr (by decide) rfl (pa_cons (pv 1) pa_nil))))))) (pss_one (ps_ret pe_bl)) pss_nil)
      (pss_cons (ps_if (pt_cmpR op_eq (pe_op op_mod (pe_c c_law_draw hr (by decide) rfl (pa_cons (pv 1) pa_nil)) pe_int) pe_int (nomark _)) (pss_one (ps_ret (pe_cmpR op_isN (pe_c c_greatest_refuge hr (by decide) rfl (pa_cons (pe_mk c_Graph hr (by decide) rfl (pa_cons pe_int (pa_cons (pe_lc (own := [("_law_v", 11)]) rfl sc_law.nd (pi_range1 rfl T.zrange (pa_cons pe_int pa_nil)) (blkOk_by (N := ["_law_script", "_law_draws", "_law_great", "_law_n", "_law_edges_here", "_law_near_here", "_law_graph", "_law_width_here", "_law_again", "_law_k", "_law_due", "_law_v"]) (sc := defScope (top 51)) (by decide +kernel)) (fun _ _ _ _ _ => (pg_name (i := 11) sc_law.nd rfl (by first | exact .inl rfl | exact .inr rfl))) (fun _ _ _ _ _ => pts_nil) (fun _ _ _ _ _ => (pe_tup (pa_cons (pv 11) (pa_cons (pe_op op_add (pv 11) pe_int) pa_nil))))) pa_nil))) (pa_cons pe_int pa_nil))) pe_non (nomark _)))) pss_nil)
      (pss_one (ps_ret pe_bl))))))))))))), ?_⟩
    refine ⟨_, rfl, a, ns, rfl, hs, hl, fun H1 nl ms e1 nnl hnl hms => ⟨small (by show 2 ≤ 10000000; decide), fun d nd => ?_⟩⟩
    have hdn : nl ≠ d := fun z => by
      rw [z, nd] at hnl
      cases hnl
    have hD : Dr (upd H1 d (.lst [V.ref nl, V.int 0])) d nl := ⟨ms, 0, upd_same, by rw [upd_ne hdn]; exact hnl, hms⟩
    generalize upd H1 d (.lst [V.ref nl, V.int 0]) = H2 at hD ⊢
    refine seq_setP (fun n H' => (9 ≤ n ∧ n < 9 + 32) ∧ Dw d nl H2 H') (fun Q' q' => draw_add_read 9 32 rfl hD (by decide) q') fun gt H3 h3 => ?_
    obtain ⟨hgt, w3⟩ := h3
    have hgt9 : EdgesOk gt [(0, 1)] := ⟨List.pairwise_singleton _ _, fun e he => by
      rw [List.mem_singleton.mp he]
      exact ⟨by decide, by show 1 < gt; omega⟩⟩
    have hgt2 : EdgesOk gt [(0, 1), (3, 8)] := ⟨.cons (fun e he => by
      rw [List.mem_singleton.mp he]
      exact .inl (by decide)) (List.pairwise_singleton _ _), fun e he => by
      rcases List.mem_cons.mp he with z | z
      · rw [z]
        exact ⟨by decide, by show 1 < gt; omega⟩
      · rw [List.mem_singleton.mp z]
        exact ⟨by decide, by show 8 < gt; omega⟩⟩
    refine ⟨_, rfl, small (by show 2 ≤ 10000000; decide), fun t1 nt1 => ⟨small (by show 1 ≤ 10000000; decide), fun l1 nl1 => ⟨small (by show 2 ≤ 10000000; decide), fun t2 nt2 => ⟨small (by show 2 ≤ 10000000; decide), fun t3 nt3 => ⟨small (by show 2 ≤ 10000000; decide), fun l2 nl2 => ⟨small (by show 2 ≤ 10000000; decide), fun L nL0 => ?_⟩⟩⟩⟩⟩⟩
    have x1 := ex_new (o := .tup [V.int 0, V.int 1]) nt1
    have x2 := ex_new (o := .lst [V.ref t1]) nl1
    have x3 := ex_new (o := .tup [V.int 0, V.int 1]) nt2
    have x4 := ex_new (o := .tup [V.int 3, V.int 8]) nt3
    have x5 := ex_new (o := .lst [V.ref t2, V.ref t3]) nl2
    have x6 := ex_new (o := .lst [V.ref l1, V.ref l2]) nL0
    have g1 := (x2.trans (x3.trans (x4.trans (x5.trans x6)))) _ _ (upd_same (H := H3) (a := t1) (o := .tup [V.int 0, V.int 1]))
    have g2 := (x3.trans (x4.trans (x5.trans x6))) _ _ (upd_same (a := l1) (o := .lst [V.ref t1]))
    have g3 := (x4.trans (x5.trans x6)) _ _ (upd_same (a := t2) (o := .tup [V.int 0, V.int 1]))
    have g4 := (x5.trans x6) _ _ (upd_same (a := t3) (o := .tup [V.int 3, V.int 8]))
    have g5 := x6 _ _ (upd_same (a := l2) (o := .lst [V.ref t2, V.ref t3]))
    have g6 := upd_same (H := (upd (upd (upd (upd (upd H3 t1 (.tup [V.int 0, V.int 1])) l1 (.lst [V.ref t1])) t2 (.tup [V.int 0, V.int 1])) t3 (.tup [V.int 3, V.int 8])) l2 (.lst [V.ref t2, V.ref t3]))) (a := L) (o := .lst [V.ref l1, V.ref l2])
    have x7 := x1.trans (x2.trans (x3.trans (x4.trans (x5.trans x6))))
    generalize upd (upd (upd (upd (upd (upd H3 t1 (.tup [V.int 0, V.int 1])) l1 (.lst [V.ref t1])) t2 (.tup [V.int 0, V.int 1])) t3 (.tup [V.int 3, V.int 8])) l2 (.lst [V.ref t2, V.ref t3])) L (.lst [V.ref l1, V.ref l2]) = H4 at g1 g2 g3 g4 g5 g6 x7 ⊢
    have w4 : Dw d nl H2 H4 := w3.trans (.of w3.dr x7)
    have le1 : LOf PairV H4 l1 [(0, 1)] := ⟨_, g2, paired_one ⟨t1, rfl, g1⟩⟩
    have le2 : LOf PairV H4 l2 [(0, 1), (3, 8)] := ⟨_, g5, .cons ⟨t2, rfl, g3⟩ (paired_one ⟨t3, rfl, g4⟩)⟩
    refine draw_read 2 rfl w4.dr (by decide) fun i H5 h5 => ?_
    obtain ⟨hi, w5⟩ := h5
    have hL5 := w5.ex _ _ (w4.dr.ne_refs g6 fun x hx => by
      rcases List.mem_cons.mp hx with z | z
      · exact ⟨l1, z⟩
      · exact ⟨l2, List.mem_singleton.mp z⟩) g6
    have pick : ∃ (l : Addr) (es : List (Nat × Nat)), [V.ref l1, V.ref l2][i]? = some (.ref l) ∧ LOf PairV H5 l es ∧ EdgesOk gt es := by
      match i, hi with
      | 0, _ => exact ⟨l1, _, rfl, le1.pdr w4.dr w5.ex, hgt9⟩
      | 1, _ => exact ⟨l2, _, rfl, le2.pdr w4.dr w5.ex, hgt2⟩
    obtain ⟨l, es0, hli, hle, hes0⟩ := pick
    refine ⟨L, _, _, .ref l, rfl, rfl, in2 hL5, atI_nat hli, ?_⟩
    refine draw_read 5 rfl w5.dr (by decide) fun k0 H6 h6 => ?_
    obtain ⟨hk0, w6⟩ := h6
    refine ⟨gt, k0, l, es0, rfl, by omega, by omega, hle.pdr w5.dr w6.ex, hes0, by omega, fun H7 e7 => ⟨true, rfl, iteF ?_⟩⟩
    have w7 : Dw d nl H2 H7 := ((w4.trans w5).trans w6).trans (.of w6.dr e7)
    refine seq_setP (fun n H' => n < 7 ∧ Dw d nl H7 H') (fun Q' q' => draw_read 7 rfl w7.dr (by decide) q') fun n H8 h8 => ?_
    obtain ⟨hn, w8⟩ := h8
    refine ⟨_, rfl, _, rfl, d, nl, n, rfl, w8.dr, by omega, fun H9 p es w9 np hLp hes => ?_⟩
    have okG := gr_ok hes
    refine ⟨_, rfl, _, rfl, p, n, es, rfl, by omega, hLp, hes, fun H10 nr e10 nnr hrows => ?_⟩
    obtain ⟨ex, hex, hexs⟩ := hLp.pex e10
    refine ⟨_, rfl, _, rfl, p, _, rfl, .inl (in2 hex), fun lc nlc => ?_⟩
    have e11 := ex_new (o := .lst ex) nlc
    refine fun x dx nx ndx ne => ⟨x, lc, dx, n, es, rfl, upd_same, by omega, ?_, hes, fun H12 ee ll hb hx' hll => ⟨rfl, ?_⟩⟩
    · exact ⟨ex, made_ex0 nx ndx _ _ upd_same, L2.Paired.mapP hexs fun _ _ z => z.tm ((Tm.of e11).trans (Tm.of (made_ex0 nx ndx)))⟩
    · have hG := made_at hx' hll
      have e12 := e11.trans (made_ex nx ndx hb)
      have hrows12 : LOf LstN H12 nr (rowsOf n es) := hrows.ex (fun e z => z.ex e) e12
      refine ⟨_, rfl, nr, rowsOf n es, rfl, hrows12, by rw [rows_len]; exact okG, by rw [rows_len]; omega, fun H13 wx e13 hw => ?_⟩
      rw [rows_len] at hw
      have w13 : Dr H13 d nl := w9.dr.ex ((e10.trans e12).trans e13)
      have hG13 := hG.ex e13
      have hrows13 : LOf LstN H13 nr (rowsOf n es) := hrows12.ex (fun e z => z.ex e) e13
      refine ⟨_, rfl, by decide, by decide, ?_⟩
      refine for_range (n := 2) (fun i σ' H' => ∃ o8 o9 o10 : Option V, σ' = [some (.ref a), some (.ref d), some (nI gt), some (nI n), some (.ref p), some (.ref nr), some (.ref x), some (.int wx), o8, o9, o10, none] ∧ Dw d nl H13 H') ⟨none, none, none, rfl, .refl, w13⟩ (fun i σ' H' hi hP => ?_) (fun σ' H' hP => ?_)
      · obtain ⟨o8, o9, o10, rfl, w14⟩ := hP
        refine seq_setP (fun k H4 => k < 7 ∧ Dw d nl H' H4) (fun Q' q' => draw_read 7 rfl w14.dr (by decide) q') fun k H15 h15 => ?_
        obtain ⟨hk, w15⟩ := h15
        have w1315 := w14.trans w15
        have hrows15 : LOf LstN H15 nr (rowsOf n es) := hrows13.rdr w13 w1315.ex
        refine ⟨_, rfl, _, rfl, nr, k, rowsOf n es, rfl, hrows15, by rw [rows_len]; exact okG, rows_nd hes, by rw [rows_len]; omega, by omega, fun H16 du qs e16 ndu hdu hso hgf hql => ?_⟩
        rw [rows_len] at hgf
        obtain ⟨xs, hdx, hxs⟩ := id hdu
        have hxl : xs.length = qs.length := Paired.length hxs
        have hnon : (∃ p, Gf (gr (rowsOf n es)) n k p) ↔ 0 < qs.length := by
          constructor
          · rintro ⟨p, hp⟩
            exact List.length_pos_of_mem ((hgf p).mpr hp)
          · intro h
            obtain ⟨p, hp⟩ := List.exists_mem_of_length_pos h
            exact ⟨p, (hgf p).mp hp⟩
        have hgw : (k : Int) ≤ wx ↔ (0 : Int) < (xs.length : Int) := by
          have h1 := K67M.gf_iff okG (by omega : n ≤ 6) k
          have h2 := hw.2.2 ((k : Int) - 1) (by omega)
          rw [hnon, h2] at h1
          omega
        refine ⟨_, rfl, _, rfl, _, _, rfl, rfl, _, rfl, du, _, rfl, .inl (in2 hdx), _, _, rfl, rfl, rfl, false, ne_same (congrArg V.bl ?_), iteF ?_⟩
        · rw [Bool.eq_iff_iff, decide_eq_true_eq, decide_eq_true_eq]
          exact hgw
        · have w16 : Dw d nl H13 H16 := w1315.trans (.of w15.dr e16)
          refine ⟨_, rfl, _, rfl, _, rfl, x, du, k, rowsOf n es, qs, rfl, hG13.dr w13 w16.ex, by rw [rows_len]; exact okG, by rw [rows_len]; omega, by omega, hdu, hso, fun p => by rw [rows_len]; exact hgf p, hql, fun H17 e17 => ⟨true, rfl, iteF ?_⟩⟩
          exact ⟨_, _, _, rfl, w16.trans (.of w16.dr e17)⟩
      · obtain ⟨o8, o9, o10, rfl, w14⟩ := hP
        refine seq_if_and (J := fun H'' => Dw d nl H13 H'') (fun Q' q' => draw_eq 6 0 rfl w14.dr (by decide) fun b H15 w15 => q' b H15 (w14.trans w15)) (fun H15 w15 Q' q' => ?_) (fun H15 w15 => ?_)
        · exact ⟨_, rfl, d, nl, rfl, w15.dr, fun H16 w16 => ⟨true, rfl, q' H16 (w15.trans w16)⟩⟩
        · refine Any.ifs (I := fun H'' => Dw d nl H13 H'') (Any.eq (IntE.mod (IntE.draw (nl := nl) (fun H h => h.dr) (fun H H' h hd he => h.trans ⟨he, hd⟩) rfl) IntE.c fun i j _ e => by rw [e]; exact ⟨by decide, by decide⟩) IntE.c) (fun H16 w16 => ?_) (fun H16 w16 => ?_) H15 w15
          · refine ⟨_, rfl, by decide, by decide, fun Dl nDl => ?_⟩
            refine lc_tmR (n := 7) (S := PairV) (f := fun _ => true) (g := fun i => (i, i + 1)) (fun _ _ _ _ e h => h.tm e) nDl (by decide) (fun _ => rfl) (fun i hi => lc_all fun H17 e17 Q' q' => ?_) fun H17 ys e17 hDl hys => ?_
            · rw [show (V.int (0 + (i : Int))) = nI i by unfold nI; rw [Int.zero_add]]
              refine ⟨_, rfl, _, rfl, _, _, rfl, rfl, small (by show 2 ≤ 10000000; decide), fun t nt => q' _ _ (ex_new nt) ⟨t, rfl, ?_⟩⟩
              rw [upd_same]
              rfl
            · rw [filter_true] at hys
              refine fun x2 dx2 nx2 ndx2 ne2 => ⟨x2, Dl, dx2, 8, (List.range 7).map fun i => (i, i + 1), rfl, upd_same, by decide, ?_, path_ok, fun H18 ee2 ll2 hb2 hx2 hll2 => ⟨rfl, ?_⟩⟩
              · exact ⟨ys, made_ex0 nx2 ndx2 _ _ hDl, L2.Paired.mapP hys fun _ _ z => z.tm (Tm.of (made_ex0 nx2 ndx2))⟩
              · refine ⟨x2, 2, rowsOf 8 ((List.range 7).map fun i => (i, i + 1)), rfl, made_at hx2 hll2, by rw [rows_len]; exact gr_ok path_ok, by rw [rows_len]; decide, by decide, fun qs H19 e19 hso hgf hql => ⟨fun z => ?_, fun z => ?_⟩⟩
                · refine ⟨rfl, ?_⟩
                  rw [decide_eq_true (rfl : V.non = V.non)]
                  exact q H19
                · exfalso
                  obtain ⟨p, tl, e⟩ := List.exists_cons_of_ne_nil z
                  have := (hgf p).mp (by rw [e]; exact List.mem_cons_self)
                  rw [rows_len] at this
                  exact path_no p this
          · exact q H16
end
end K67
set_option Elab.async false
set_option linter.all false
set_option maxRecDepth 100000
set_option maxHeartbeats 2000000
namespace K67
open PySem PySem.Spec PyProof.Rows L2
theorem all_ok {P : Program} {w : World} {K : PySem.W.Frag} {h : Heap} {mg : Str → Option Value} {f : Addr} (X : K.In h) (G : h.Ns mainGlobals mg) (hfa : mg ("law" : Str) = some (.ref f)) (c : He.SaysX fa fn [] [] ex w h K) :
    ∃ fd : FuncData, (∀ (s : Shared) (v : Value), BindsTo s fd ⟨[v], []⟩ [("_law_script", v)]) ∧ ∀ base : Heap, K.In base → base.Ns mainGlobals mg → L2.FnOk P w K mg base L2.CX0 20 f fd ["_law_script"] (spLaw K) := by
  have fc := c.t.d
  have d_is_integer : Df K mg "is_integer" 8 := by
    obtain ⟨fd, F⟩ := fc.def_ 0
    exact ⟨⟨_, fd, F, He.glo_ok X G (fc.fact 0)⟩⟩
  have d_is_index : Df K mg "is_index" 9 := by
    obtain ⟨fd, F⟩ := fc.def_ 1
    exact ⟨⟨_, fd, F, He.glo_ok X G (fc.fact 1)⟩⟩
  have d_check_edges : Df K mg "check_edges" 11 := by
    obtain ⟨fd, F⟩ := fc.def_ 2
    exact ⟨⟨_, fd, F, He.glo_ok X G (fc.fact 2)⟩⟩
  have d_check_number : Df K mg "check_number" 15 := by
    obtain ⟨fd, F⟩ := fc.def_ 3
    exact ⟨⟨_, fd, F, He.glo_ok X G (fc.fact 3)⟩⟩
  have d_reached : Df K mg "reached" 16 := by
    obtain ⟨fd, F⟩ := fc.def_ 4
    exact ⟨⟨_, fd, F, He.glo_ok X G (fc.fact 4)⟩⟩
  have d_parts_without : Df K mg "parts_without" 17 := by
    obtain ⟨fd, F⟩ := fc.def_ 5
    exact ⟨⟨_, fd, F, He.glo_ok X G (fc.fact 5)⟩⟩
  have d_positions_of : Df K mg "positions_of" 19 := by
    obtain ⟨fd, F⟩ := fc.def_ 6
    exact ⟨⟨_, fd, F, He.glo_ok X G (fc.fact 6)⟩⟩
  have d_is_position : Df K mg "is_position" 20 := by
    obtain ⟨fd, F⟩ := fc.def_ 7
    exact ⟨⟨_, fd, F, He.glo_ok X G (fc.fact 7)⟩⟩
  have d_holds : Df K mg "holds" 21 := by
    obtain ⟨fd, F⟩ := fc.def_ 8
    exact ⟨⟨_, fd, F, He.glo_ok X G (fc.fact 8)⟩⟩
  have d_table_of : Df K mg "table_of" 22 := by
    obtain ⟨fd, F⟩ := fc.def_ 9
    exact ⟨⟨_, fd, F, He.glo_ok X G (fc.fact 9)⟩⟩
  have d_check_refuge : Df K mg "check_refuge" 23 := by
    obtain ⟨fd, F⟩ := fc.def_ 10
    exact ⟨⟨_, fd, F, He.glo_ok X G (fc.fact 10)⟩⟩
  have d_largest_refuge : Df K mg "largest_refuge" 24 := by
    obtain ⟨fd, F⟩ := fc.def_ 11
    exact ⟨⟨_, fd, F, He.glo_ok X G (fc.fact 11)⟩⟩
  have d_is_refuge : Df K mg "is_refuge" 28 := by
    obtain ⟨fd, F⟩ := fc.def_ 12
    exact ⟨⟨_, fd, F, He.glo_ok X G (fc.fact 12)⟩⟩
  have d_greatest_refuge : Df K mg "greatest_refuge" 29 := by
    obtain ⟨fd, F⟩ := fc.def_ 13
    exact ⟨⟨_, fd, F, He.glo_ok X G (fc.fact 13)⟩⟩
  have d_law_mixed : Df K mg "_law_mixed" 31 := by
    obtain ⟨fd, F⟩ := fc.def_ 14
    exact ⟨⟨_, fd, F, He.glo_ok X G (fc.fact 14)⟩⟩
  have d_law_numbers : Df K mg "_law_numbers" 32 := by
    obtain ⟨fd, F⟩ := fc.def_ 15
    exact ⟨⟨_, fd, F, He.glo_ok X G (fc.fact 15)⟩⟩
  have d_law_draw : Df K mg "_law_draw" 33 := by
    obtain ⟨fd, F⟩ := fc.def_ 16
    exact ⟨⟨_, fd, F, He.glo_ok X G (fc.fact 16)⟩⟩
  have d_law_equal : Df K mg "_law_equal" 34 := by
    obtain ⟨fd, F⟩ := fc.def_ 17
    exact ⟨⟨_, fd, F, He.glo_ok X G (fc.fact 17)⟩⟩
  have d_law_all_equal : Df K mg "_law_all_equal" 35 := by
    obtain ⟨fd, F⟩ := fc.def_ 18
    exact ⟨⟨_, fd, F, He.glo_ok X G (fc.fact 18)⟩⟩
  have d_law_pairs : Df K mg "_law_pairs" 36 := by
    obtain ⟨fd, F⟩ := fc.def_ 19
    exact ⟨⟨_, fd, F, He.glo_ok X G (fc.fact 19)⟩⟩
  have d_law_order : Df K mg "_law_order" 37 := by
    obtain ⟨fd, F⟩ := fc.def_ 20
    exact ⟨⟨_, fd, F, He.glo_ok X G (fc.fact 20)⟩⟩
  have d_law_edges : Df K mg "_law_edges" 38 := by
    obtain ⟨fd, F⟩ := fc.def_ 21
    exact ⟨⟨_, fd, F, He.glo_ok X G (fc.fact 21)⟩⟩
  have d_law_near : Df K mg "_law_near" 39 := by
    obtain ⟨fd, F⟩ := fc.def_ 22
    exact ⟨⟨_, fd, F, He.glo_ok X G (fc.fact 22)⟩⟩
  have d_law_components : Df K mg "_law_components" 40 := by
    obtain ⟨fd, F⟩ := fc.def_ 23
    exact ⟨⟨_, fd, F, He.glo_ok X G (fc.fact 23)⟩⟩
  have d_law_positions : Df K mg "_law_positions" 41 := by
    obtain ⟨fd, F⟩ := fc.def_ 24
    exact ⟨⟨_, fd, F, He.glo_ok X G (fc.fact 24)⟩⟩
  have d_law_inside : Df K mg "_law_inside" 42 := by
    obtain ⟨fd, F⟩ := fc.def_ 25
    exact ⟨⟨_, fd, F, He.glo_ok X G (fc.fact 25)⟩⟩
  have d_law_stays : Df K mg "_law_stays" 43 := by
    obtain ⟨fd, F⟩ := fc.def_ 26
    exact ⟨⟨_, fd, F, He.glo_ok X G (fc.fact 26)⟩⟩
  have d_law_by_searched : Df K mg "_law_by_searched" 44 := by
    obtain ⟨fd, F⟩ := fc.def_ 27
    exact ⟨⟨_, fd, F, He.glo_ok X G (fc.fact 27)⟩⟩
  have d_law_greatest : Df K mg "_law_greatest" 45 := by
    obtain ⟨fd, F⟩ := fc.def_ 28
    exact ⟨⟨_, fd, F, He.glo_ok X G (fc.fact 28)⟩⟩
  have d_law_later : Df K mg "_law_later" 46 := by
    obtain ⟨fd, F⟩ := fc.def_ 29
    exact ⟨⟨_, fd, F, He.glo_ok X G (fc.fact 29)⟩⟩
  have d_law_width : Df K mg "_law_width" 47 := by
    obtain ⟨fd, F⟩ := fc.def_ 30
    exact ⟨⟨_, fd, F, He.glo_ok X G (fc.fact 30)⟩⟩
  have d_law_too_large : Df K mg "_law_too_large" 48 := by
    obtain ⟨fd, F⟩ := fc.def_ 31
    exact ⟨⟨_, fd, F, He.glo_ok X G (fc.fact 31)⟩⟩
  have d_law_told_right : Df K mg "_law_told_right" 49 := by
    obtain ⟨fd, F⟩ := fc.def_ 32
    exact ⟨⟨_, fd, F, He.glo_ok X G (fc.fact 32)⟩⟩
  have d_law_great_right : Df K mg "_law_great_right" 50 := by
    obtain ⟨fd, F⟩ := fc.def_ 33
    exact ⟨⟨_, fd, F, He.glo_ok X G (fc.fact 33)⟩⟩
  have dc : DfC K mg (He.ga K "Graph") := by
    obtain ⟨fd, F⟩ := fc.def_ 35
    exact ⟨⟨_, fd, F, He.mkr_ok (fc.fact 55), He.glo_ok X G (fc.fact 35)⟩⟩
  obtain ⟨x1, x2, x3, x4⟩ := He.exc_ok (K := K) (x := "TooLarge") (fc.fact 59)
  obtain ⟨m1, mm⟩ := He.ba (show ex K = true from c.more)
  obtain ⟨m2, mm⟩ := He.ba mm
  obtain ⟨m3, mm⟩ := He.ba mm
  obtain ⟨m4, mm⟩ := He.ba mm
  obtain ⟨m5, mm⟩ := He.ba mm
  obtain ⟨m6, mm⟩ := He.ba mm
  obtain ⟨m7, mm⟩ := He.ba mm
  obtain ⟨m8, m9⟩ := He.ba mm
  have T : Txt K mg (He.ga K "Graph") (He.ga K "TooLarge") (He.ga K "BadArgument") :=
    { zisinstance := He.free_ok X G (fc.fact 39), zint := He.free_ok X G (fc.fact 40), zbool := He.free_ok X G (fc.fact 41), zlist := He.free_ok X G (fc.fact 42), ztuple := He.free_ok X G (fc.fact 43), zlen := He.free_ok X G (fc.fact 44), zrange := He.free_ok X G (fc.fact 45), zsorted := He.free_ok X G (fc.fact 46), zmin := He.free_ok X G (fc.fact 47), zmax := He.free_ok X G (fc.fact 48), zall := He.free_ok X G (fc.fact 49), zstr := He.free_ok X G (fc.fact 50),
      iMOST := He.int_ok X G (fc.fact 51), iSEARCHERS := He.int_ok X G (fc.fact 52), iSMALL := He.int_ok X G (fc.fact 53),
      cl := He.cls_ok (fc.fact 54), nNodes := He.noat_ok (fc.fact 56), nEdges := He.noat_ok (fc.fact 57), nLinks := He.noat_ok (fc.fact 58),
      gGraph := He.glo_ok X G (fc.fact 35), gTooLarge := He.glo_ok X G (fc.fact 36), gBadArgument := He.glo_ok X G (fc.fact 37),
      xT := x1, kT := x2, bT := x3, tT := x4, eT := He.exm_ok (fc.fact 60),
      excC := ⟨He.eqO_ok m1, He.eqO_ok m2, of_decide_eq_true m3, m4, He.eqO_ok m5, He.eqO_ok m6, of_decide_eq_true m7, of_decide_eq_true m8⟩, isB := of_decide_eq_true m9 }
  obtain ⟨fd, F⟩ := fc.def_ 34
  have eg : mg ("law" : Str) = some (.ref (He.ga K "law")) := He.glo_ok X G (fc.fact 34)
  have ef : f = He.ga K "law" := by
    rw [hfa] at eg
    cases eg
    rfl
  subst ef
  refine ⟨fd, fun s v => F.bindsA (ps := ["_law_script"]) (fun _ _ _ _ _ _ us hl => match us, hl with | [_], _ => rfl) s [v] rfl, fun base _ _ => ?_⟩
  · have c_is_integer := cal_is_integer (P := P) (w := w) (base := base) T d_is_integer
    have c_is_index := cal_is_index T d_is_index c_is_integer
    have c_check_number := cal_check_number T d_check_number c_is_integer
    have c_reached := cal_reached (P := P) (w := w) (base := base) T d_reached
    have c_parts_without := cal_parts_without T d_parts_without c_reached
    have c_positions_of := cal_positions_of T d_positions_of c_parts_without
    have c_is_position := cal_is_position T d_is_position c_is_index c_reached
    have c_holds := cal_holds T d_holds c_reached
    have c_table_of := cal_table_of (P := P) (w := w) (base := base) T d_table_of
    have c_check_refuge := cal_check_refuge T d_check_refuge c_is_position c_holds c_table_of
    have c_largest_refuge := cal_largest_refuge T d_largest_refuge c_holds c_table_of
    have c_is_refuge := cal_is_refuge T d_is_refuge c_check_number c_check_refuge
    have c_greatest_refuge := cal_greatest_refuge T d_greatest_refuge c_check_number c_largest_refuge c_positions_of
    have cx := calx_greatest_refuge T d_greatest_refuge c_check_number
    have c_check_edges := cal_check_edges T d_check_edges c_is_integer c_is_index
    have c_Graph := mak_graph T dc c_check_edges
    have c_law_mixed := cal_law_mixed (P := P) (w := w) (base := base) T d_law_mixed
    have c_law_numbers := cal_law_numbers T d_law_numbers c_law_mixed
    have c_law_draw := cal_law_draw T d_law_draw c_law_mixed
    have c_law_pairs := cal_law_pairs T d_law_pairs c_law_draw
    have c_law_order := cal_law_order T d_law_order c_law_draw
    have c_law_edges := cal_law_edges T d_law_edges c_law_order c_law_pairs
    have c_law_near := cal_law_near (P := P) (w := w) (base := base) T d_law_near
    have c_law_components := cal_law_components (P := P) (w := w) (base := base) T d_law_components
    have c_law_positions := cal_law_positions T d_law_positions c_law_components
    have c_law_inside := cal_law_inside (P := P) (w := w) (base := base) T d_law_inside
    have c_law_stays := cal_law_stays T d_law_stays c_law_inside
    have c_law_by_searched := cal_law_by_searched (P := P) (w := w) (base := base) T d_law_by_searched
    have c_law_greatest := cal_law_greatest T d_law_greatest c_law_positions c_law_by_searched c_law_stays
    have c_law_later := cal_law_later (P := P) (w := w) (base := base) T d_law_later
    have c_law_width := cal_law_width T d_law_width c_law_later
    have c_eq0 := cal_eq0 (P := P) (w := w) (base := base) T d_law_equal
    have c_eq1 := cal_eqT T d_law_equal (cal_allT T d_law_all_equal c_eq0)
    have c_eq2 := cal_eqT T d_law_equal (cal_allT T d_law_all_equal c_eq1)
    have c_law_equal := cal_eqL T d_law_equal (cal_allL T d_law_all_equal c_eq2)
    have c_law_too_large := cal_law_too_large T d_law_too_large c_Graph cx
    have c_law_told_right := cal_law_told_right T d_law_told_right c_greatest_refuge c_is_refuge c_law_equal
    have c_law_great_right := cal_law_great_right T d_law_great_right c_law_draw c_law_edges c_law_order c_law_near c_law_greatest c_law_told_right c_Graph
    exact ok_law T F c_law_numbers c_law_draw c_law_too_large c_law_edges c_law_near c_Graph c_law_width c_law_greatest c_law_told_right c_law_great_right c_greatest_refuge
end K67
set_option Elab.async false
set_option linter.all false
set_option maxRecDepth 100000
set_option maxHeartbeats 0
namespace K67
open PySem PySem.Spec PyProof.Rows L2
abbrev rw67 := PySem.Challenge.rw_cherrystone_k67_whole_refuges_and_widths
end K67
open PySem PySem.W PySem.Calls PyProof.Rows
theorem PySem.Challenge.cw_cherrystone_k67_whole_refuges_and_widths_holds : PySem.Challenge.rw_cherrystone_k67_whole_refuges_and_widths.Holds := by
  w_on; o_law
  refine HandSHeadRun.head_any (r := OpenLaw.row K67.rw67) (q := view (OpenLaw.row K67.rw67).prog [51]) (H := K67.hk) (ob := K67.ob) (M := 4000) (loose := K67.nms) (d := HandSHeadRun.topDef (OpenLaw.row K67.rw67).prog 51) (kwd := []) K67.ob_eq
    (by kernel_rfl) (fun s => by kernel_rfl) K67.run (by kernel_rfl) (by kernel_rfl) (by kernel_rfl) (by rfl) (by first | assumption | decide +kernel) (by decide +kernel) ⟨rfl, rfl, rfl, rfl, rfl, by decide +kernel⟩ ?hw ?hc
  case hw => w_witness2
  case hc =>
    refine L2.walk_ofE (l := K67.rw67) (n := 63) (k := 20) (x := "_law_script") (CX := L2.CX0) rfl (by decide) (by kernel_rfl) ⟨rfl, by decide, by decide⟩ ?F (fun _ _ _ _ z => z)
    intro w mg fa h Y G hmg0
    obtain ⟨K, KX, c⟩ := Y
    have hmg : mg ("law" : PySem.Str) = some (.ref fa) := by
      have e : (HandSHeadRun.topDef (OpenLaw.row K67.rw67).prog 51).name = ("law" : PySem.Str) := by kernel_rfl
      rw [← e]
      exact hmg0
    obtain ⟨fd, hb, hF⟩ := K67.all_ok (P := (K67.rw67).prog) (w := w) KX G hmg c
    exact ⟨K, fd, K67.spLaw K, KX, hb, fun H a ns hl _ hS => ⟨a, ns, rfl, hS, hl, fun _ => rfl⟩, hF⟩
