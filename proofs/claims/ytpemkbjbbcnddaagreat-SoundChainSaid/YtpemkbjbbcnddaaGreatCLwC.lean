/- The contract of gnomonlaw11.checks: it answers true. No condition. -/
import Derived.Test.YtpemkbjbbcnddaaGreatCLw
import Derived.Test.YtpemkbjbbcnddaaGreatCSndChk
set_option linter.unusedVariables false
set_option linter.unusedSimpArgs false
set_option linter.unusedSectionVars false
namespace Go.Proofs.YtpemkbjbbcnddaaGreat
open Go.RowKit Go.Shelf

theorem slBlk {α : Type} {R : Rdr α} {sz : Nat} {w : World} {B b n : Nat} {l : List α} (hn : n = l.length) (hm : n ≤ 65536) (hb : b < B) (h : ∀ k x, l[k]? = some x → R w B b (k * sz) x) : SlAt R sz w B (.slice (some ⟨b, 0, none⟩) n n) l := by
  subst hn
  exact ⟨_, _, rfl, Nat.le_refl _, by unfold maxLen; omega, fun k x hx => ⟨b, 0, rfl, hb, by rw [Nat.zero_add]; exact h k x hx⟩⟩
theorem get_one {α : Type} {P : Nat → α → Prop} {a : α} (h : P 0 a) : ∀ k x, [a][k]? = some x → P k x := by
  intro k x hx
  rcases k with _ | k
  · cases hx; exact h
  · simp at hx
theorem get_two {α : Type} {P : Nat → α → Prop} {a b : α} (h : P 0 a) (h1 : P 1 b) : ∀ k x, [a, b][k]? = some x → P k x := by
  intro k x hx
  rcases k with _ | _ | k
  · cases hx; exact h
  · cases hx; exact h1
  · simp at hx
theorem get_three {α : Type} {P : Nat → α → Prop} {a b c : α} (h : P 0 a) (h1 : P 1 b) (h2 : P 2 c) : ∀ k x, [a, b, c][k]? = some x → P k x := by
  intro k x hx
  rcases k with _ | _ | _ | k
  · cases hx; exact h
  · cases hx; exact h1
  · cases hx; exact h2
  · simp at hx

/-- The world when the example is built. -/
def wEx (w : World) : World := ((((((((w.alloc (.cells #[.string ⟨#[98]⟩, .string ⟨#[99]⟩] 9)).alloc (.cells #[.int .u8 12, .string ⟨#[]⟩, .string ⟨#[]⟩, .string ⟨#[]⟩, .int .i64 0, .string ⟨#[]⟩, .slice none 0 0, .slice (some ⟨w.heap.size, 0, none⟩) 2 2] 45)).alloc (.cells #[.string ⟨#[99]⟩] 9)).alloc (.cells #[.int .u8 3, .string ⟨#[120]⟩, .string ⟨#[]⟩, .string ⟨#[]⟩, .int .i64 0, .string ⟨#[]⟩, .slice none 0 0, .slice none 0 0, .int .u8 13, .string ⟨#[]⟩, .string ⟨#[]⟩, .string ⟨#[]⟩, .int .i64 0, .string ⟨#[]⟩, .slice none 0 0, .slice (some ⟨w.heap.size + 1 + 1, 0, none⟩) 1 1] 45)).alloc (.cells #[.int .u8 14, .string ⟨#[]⟩, .string ⟨#[120]⟩, .string ⟨#[]⟩, .int .i64 0, .string ⟨#[]⟩, .slice none 0 0, .slice none 0 0] 45)).alloc (.cells #[.string ⟨#[97]⟩, .slice (some ⟨w.heap.size + 1, 0, none⟩) 1 1, .string ⟨#[98]⟩, .slice (some ⟨w.heap.size + 1 + 1 + 1, 0, none⟩) 2 2, .string ⟨#[99]⟩, .slice (some ⟨w.heap.size + 1 + 1 + 1 + 1, 0, none⟩) 1 1] 42)).alloc (.cells #[.string ⟨#[109, 97, 105, 110]⟩, .slice none 0 0, .slice (some ⟨w.heap.size + 1 + 1 + 1 + 1 + 1, 0, none⟩) 3 3] 37)).alloc (.cells #[.slice (some ⟨w.heap.size + 1 + 1 + 1 + 1 + 1 + 1, 0, none⟩) 1 1] 24))
theorem wEx_size (w : World) : (wEx w).heap.size = w.heap.size + 8 := by simp [wEx]
theorem wEx_grown (w : World) : w.grownBy (wEx w) none := by
  unfold wEx
  repeat (first | exact World.grownBy_alloc _ _ _ | refine grown_alloc ?_ _)
theorem wEx_0 (w : World) : (wEx w).heap[w.heap.size]? = some (.cells #[.string ⟨#[98]⟩, .string ⟨#[99]⟩] 9 (0, 0)) := by
  have h := World.alloc_heap_new w (.cells #[.string ⟨#[98]⟩, .string ⟨#[99]⟩] 9)
  exact seen_alloc (seen_alloc (seen_alloc (seen_alloc (seen_alloc (seen_alloc (seen_alloc (h) _) _) _) _) _) _) _
theorem wEx_1 (w : World) : (wEx w).heap[w.heap.size + 1]? = some (.cells #[.int .u8 12, .string ⟨#[]⟩, .string ⟨#[]⟩, .string ⟨#[]⟩, .int .i64 0, .string ⟨#[]⟩, .slice none 0 0, .slice (some ⟨w.heap.size, 0, none⟩) 2 2] 45 (0, 0)) := by
  have h := World.alloc_heap_new (w.alloc (.cells #[.string ⟨#[98]⟩, .string ⟨#[99]⟩] 9)) (.cells #[.int .u8 12, .string ⟨#[]⟩, .string ⟨#[]⟩, .string ⟨#[]⟩, .int .i64 0, .string ⟨#[]⟩, .slice none 0 0, .slice (some ⟨w.heap.size, 0, none⟩) 2 2] 45)
  simp only [World.size_alloc] at h
  exact seen_alloc (seen_alloc (seen_alloc (seen_alloc (seen_alloc (seen_alloc (h) _) _) _) _) _) _
theorem wEx_2 (w : World) : (wEx w).heap[w.heap.size + 1 + 1]? = some (.cells #[.string ⟨#[99]⟩] 9 (0, 0)) := by
  have h := World.alloc_heap_new ((w.alloc (.cells #[.string ⟨#[98]⟩, .string ⟨#[99]⟩] 9)).alloc (.cells #[.int .u8 12, .string ⟨#[]⟩, .string ⟨#[]⟩, .string ⟨#[]⟩, .int .i64 0, .string ⟨#[]⟩, .slice none 0 0, .slice (some ⟨w.heap.size, 0, none⟩) 2 2] 45)) (.cells #[.string ⟨#[99]⟩] 9)
  simp only [World.size_alloc] at h
  exact seen_alloc (seen_alloc (seen_alloc (seen_alloc (seen_alloc (h) _) _) _) _) _
theorem wEx_3 (w : World) : (wEx w).heap[w.heap.size + 1 + 1 + 1]? = some (.cells #[.int .u8 3, .string ⟨#[120]⟩, .string ⟨#[]⟩, .string ⟨#[]⟩, .int .i64 0, .string ⟨#[]⟩, .slice none 0 0, .slice none 0 0, .int .u8 13, .string ⟨#[]⟩, .string ⟨#[]⟩, .string ⟨#[]⟩, .int .i64 0, .string ⟨#[]⟩, .slice none 0 0, .slice (some ⟨w.heap.size + 1 + 1, 0, none⟩) 1 1] 45 (0, 0)) := by
  have h := World.alloc_heap_new (((w.alloc (.cells #[.string ⟨#[98]⟩, .string ⟨#[99]⟩] 9)).alloc (.cells #[.int .u8 12, .string ⟨#[]⟩, .string ⟨#[]⟩, .string ⟨#[]⟩, .int .i64 0, .string ⟨#[]⟩, .slice none 0 0, .slice (some ⟨w.heap.size, 0, none⟩) 2 2] 45)).alloc (.cells #[.string ⟨#[99]⟩] 9)) (.cells #[.int .u8 3, .string ⟨#[120]⟩, .string ⟨#[]⟩, .string ⟨#[]⟩, .int .i64 0, .string ⟨#[]⟩, .slice none 0 0, .slice none 0 0, .int .u8 13, .string ⟨#[]⟩, .string ⟨#[]⟩, .string ⟨#[]⟩, .int .i64 0, .string ⟨#[]⟩, .slice none 0 0, .slice (some ⟨w.heap.size + 1 + 1, 0, none⟩) 1 1] 45)
  simp only [World.size_alloc] at h
  exact seen_alloc (seen_alloc (seen_alloc (seen_alloc (h) _) _) _) _
theorem wEx_4 (w : World) : (wEx w).heap[w.heap.size + 1 + 1 + 1 + 1]? = some (.cells #[.int .u8 14, .string ⟨#[]⟩, .string ⟨#[120]⟩, .string ⟨#[]⟩, .int .i64 0, .string ⟨#[]⟩, .slice none 0 0, .slice none 0 0] 45 (0, 0)) := by
  have h := World.alloc_heap_new ((((w.alloc (.cells #[.string ⟨#[98]⟩, .string ⟨#[99]⟩] 9)).alloc (.cells #[.int .u8 12, .string ⟨#[]⟩, .string ⟨#[]⟩, .string ⟨#[]⟩, .int .i64 0, .string ⟨#[]⟩, .slice none 0 0, .slice (some ⟨w.heap.size, 0, none⟩) 2 2] 45)).alloc (.cells #[.string ⟨#[99]⟩] 9)).alloc (.cells #[.int .u8 3, .string ⟨#[120]⟩, .string ⟨#[]⟩, .string ⟨#[]⟩, .int .i64 0, .string ⟨#[]⟩, .slice none 0 0, .slice none 0 0, .int .u8 13, .string ⟨#[]⟩, .string ⟨#[]⟩, .string ⟨#[]⟩, .int .i64 0, .string ⟨#[]⟩, .slice none 0 0, .slice (some ⟨w.heap.size + 1 + 1, 0, none⟩) 1 1] 45)) (.cells #[.int .u8 14, .string ⟨#[]⟩, .string ⟨#[120]⟩, .string ⟨#[]⟩, .int .i64 0, .string ⟨#[]⟩, .slice none 0 0, .slice none 0 0] 45)
  simp only [World.size_alloc] at h
  exact seen_alloc (seen_alloc (seen_alloc (h) _) _) _
theorem wEx_5 (w : World) : (wEx w).heap[w.heap.size + 1 + 1 + 1 + 1 + 1]? = some (.cells #[.string ⟨#[97]⟩, .slice (some ⟨w.heap.size + 1, 0, none⟩) 1 1, .string ⟨#[98]⟩, .slice (some ⟨w.heap.size + 1 + 1 + 1, 0, none⟩) 2 2, .string ⟨#[99]⟩, .slice (some ⟨w.heap.size + 1 + 1 + 1 + 1, 0, none⟩) 1 1] 42 (0, 0)) := by
  have h := World.alloc_heap_new (((((w.alloc (.cells #[.string ⟨#[98]⟩, .string ⟨#[99]⟩] 9)).alloc (.cells #[.int .u8 12, .string ⟨#[]⟩, .string ⟨#[]⟩, .string ⟨#[]⟩, .int .i64 0, .string ⟨#[]⟩, .slice none 0 0, .slice (some ⟨w.heap.size, 0, none⟩) 2 2] 45)).alloc (.cells #[.string ⟨#[99]⟩] 9)).alloc (.cells #[.int .u8 3, .string ⟨#[120]⟩, .string ⟨#[]⟩, .string ⟨#[]⟩, .int .i64 0, .string ⟨#[]⟩, .slice none 0 0, .slice none 0 0, .int .u8 13, .string ⟨#[]⟩, .string ⟨#[]⟩, .string ⟨#[]⟩, .int .i64 0, .string ⟨#[]⟩, .slice none 0 0, .slice (some ⟨w.heap.size + 1 + 1, 0, none⟩) 1 1] 45)).alloc (.cells #[.int .u8 14, .string ⟨#[]⟩, .string ⟨#[120]⟩, .string ⟨#[]⟩, .int .i64 0, .string ⟨#[]⟩, .slice none 0 0, .slice none 0 0] 45)) (.cells #[.string ⟨#[97]⟩, .slice (some ⟨w.heap.size + 1, 0, none⟩) 1 1, .string ⟨#[98]⟩, .slice (some ⟨w.heap.size + 1 + 1 + 1, 0, none⟩) 2 2, .string ⟨#[99]⟩, .slice (some ⟨w.heap.size + 1 + 1 + 1 + 1, 0, none⟩) 1 1] 42)
  simp only [World.size_alloc] at h
  exact seen_alloc (seen_alloc (h) _) _
theorem wEx_6 (w : World) : (wEx w).heap[w.heap.size + 1 + 1 + 1 + 1 + 1 + 1]? = some (.cells #[.string ⟨#[109, 97, 105, 110]⟩, .slice none 0 0, .slice (some ⟨w.heap.size + 1 + 1 + 1 + 1 + 1, 0, none⟩) 3 3] 37 (0, 0)) := by
  have h := World.alloc_heap_new ((((((w.alloc (.cells #[.string ⟨#[98]⟩, .string ⟨#[99]⟩] 9)).alloc (.cells #[.int .u8 12, .string ⟨#[]⟩, .string ⟨#[]⟩, .string ⟨#[]⟩, .int .i64 0, .string ⟨#[]⟩, .slice none 0 0, .slice (some ⟨w.heap.size, 0, none⟩) 2 2] 45)).alloc (.cells #[.string ⟨#[99]⟩] 9)).alloc (.cells #[.int .u8 3, .string ⟨#[120]⟩, .string ⟨#[]⟩, .string ⟨#[]⟩, .int .i64 0, .string ⟨#[]⟩, .slice none 0 0, .slice none 0 0, .int .u8 13, .string ⟨#[]⟩, .string ⟨#[]⟩, .string ⟨#[]⟩, .int .i64 0, .string ⟨#[]⟩, .slice none 0 0, .slice (some ⟨w.heap.size + 1 + 1, 0, none⟩) 1 1] 45)).alloc (.cells #[.int .u8 14, .string ⟨#[]⟩, .string ⟨#[120]⟩, .string ⟨#[]⟩, .int .i64 0, .string ⟨#[]⟩, .slice none 0 0, .slice none 0 0] 45)).alloc (.cells #[.string ⟨#[97]⟩, .slice (some ⟨w.heap.size + 1, 0, none⟩) 1 1, .string ⟨#[98]⟩, .slice (some ⟨w.heap.size + 1 + 1 + 1, 0, none⟩) 2 2, .string ⟨#[99]⟩, .slice (some ⟨w.heap.size + 1 + 1 + 1 + 1, 0, none⟩) 1 1] 42)) (.cells #[.string ⟨#[109, 97, 105, 110]⟩, .slice none 0 0, .slice (some ⟨w.heap.size + 1 + 1 + 1 + 1 + 1, 0, none⟩) 3 3] 37)
  simp only [World.size_alloc] at h
  exact seen_alloc (h) _
theorem wEx_7 (w : World) : (wEx w).heap[w.heap.size + 1 + 1 + 1 + 1 + 1 + 1 + 1]? = some (.cells #[.slice (some ⟨w.heap.size + 1 + 1 + 1 + 1 + 1 + 1, 0, none⟩) 1 1] 24 (0, 0)) := by
  have h := World.alloc_heap_new (((((((w.alloc (.cells #[.string ⟨#[98]⟩, .string ⟨#[99]⟩] 9)).alloc (.cells #[.int .u8 12, .string ⟨#[]⟩, .string ⟨#[]⟩, .string ⟨#[]⟩, .int .i64 0, .string ⟨#[]⟩, .slice none 0 0, .slice (some ⟨w.heap.size, 0, none⟩) 2 2] 45)).alloc (.cells #[.string ⟨#[99]⟩] 9)).alloc (.cells #[.int .u8 3, .string ⟨#[120]⟩, .string ⟨#[]⟩, .string ⟨#[]⟩, .int .i64 0, .string ⟨#[]⟩, .slice none 0 0, .slice none 0 0, .int .u8 13, .string ⟨#[]⟩, .string ⟨#[]⟩, .string ⟨#[]⟩, .int .i64 0, .string ⟨#[]⟩, .slice none 0 0, .slice (some ⟨w.heap.size + 1 + 1, 0, none⟩) 1 1] 45)).alloc (.cells #[.int .u8 14, .string ⟨#[]⟩, .string ⟨#[120]⟩, .string ⟨#[]⟩, .int .i64 0, .string ⟨#[]⟩, .slice none 0 0, .slice none 0 0] 45)).alloc (.cells #[.string ⟨#[97]⟩, .slice (some ⟨w.heap.size + 1, 0, none⟩) 1 1, .string ⟨#[98]⟩, .slice (some ⟨w.heap.size + 1 + 1 + 1, 0, none⟩) 2 2, .string ⟨#[99]⟩, .slice (some ⟨w.heap.size + 1 + 1 + 1 + 1, 0, none⟩) 1 1] 42)).alloc (.cells #[.string ⟨#[109, 97, 105, 110]⟩, .slice none 0 0, .slice (some ⟨w.heap.size + 1 + 1 + 1 + 1 + 1, 0, none⟩) 3 3] 37)) (.cells #[.slice (some ⟨w.heap.size + 1 + 1 + 1 + 1 + 1 + 1, 0, none⟩) 1 1] 24)
  simp only [World.size_alloc] at h
  exact h

theorem wEx_prog (w : World) : ProgAt (wEx w) (wEx w).heap.size (.slice (some ⟨w.heap.size + 1 + 1 + 1 + 1 + 1 + 1, 0, none⟩) 1 1) p0 := by
  have hs := wEx_size w
  have l0 : StrsAt (wEx w) (wEx w).heap.size (.slice (some ⟨w.heap.size, 0, none⟩) 2 2) [[98], [99]] := slBlk rfl (by decide) (by omega) (get_two ⟨(blk_facts (wEx_0 w)).1 0, by decide⟩ ⟨(blk_facts (wEx_0 w)).1 1, by decide⟩)
  have l2 : StrsAt (wEx w) (wEx w).heap.size (.slice (some ⟨w.heap.size + 1 + 1, 0, none⟩) 1 1) [[99]] := slBlk rfl (by decide) (by omega) (get_one ⟨(blk_facts (wEx_2 w)).1 0, by decide⟩)
  have x1 : insR (wEx w) (wEx w).heap.size (w.heap.size + 1) (0 * 8) i0br := ⟨_, _, ⟨SlAt.nil_ strR 1 _ _, by decide, by decide, l0, by decide, by decide, by decide, by decide, by decide, by decide, by decide⟩, ((blk_facts (wEx_1 w)).1 0), ((blk_facts (wEx_1 w)).1 1), ((blk_facts (wEx_1 w)).1 2), ((blk_facts (wEx_1 w)).1 3), ((blk_facts (wEx_1 w)).1 4), ((blk_facts (wEx_1 w)).1 5), ((blk_facts (wEx_1 w)).1 6), ((blk_facts (wEx_1 w)).1 7)⟩
  have x2 : insR (wEx w) (wEx w).heap.size (w.heap.size + 1 + 1 + 1) (0 * 8) i0null := ⟨_, _, ⟨SlAt.nil_ strR 1 _ _, by decide, by decide, SlAt.nil_ strR 1 _ _, by decide, by decide, by decide, by decide, by decide, by decide, by decide⟩, ((blk_facts (wEx_3 w)).1 0), ((blk_facts (wEx_3 w)).1 1), ((blk_facts (wEx_3 w)).1 2), ((blk_facts (wEx_3 w)).1 3), ((blk_facts (wEx_3 w)).1 4), ((blk_facts (wEx_3 w)).1 5), ((blk_facts (wEx_3 w)).1 6), ((blk_facts (wEx_3 w)).1 7)⟩
  have x3 : insR (wEx w) (wEx w).heap.size (w.heap.size + 1 + 1 + 1) (1 * 8) i0goto := ⟨_, _, ⟨SlAt.nil_ strR 1 _ _, by decide, by decide, l2, by decide, by decide, by decide, by decide, by decide, by decide, by decide⟩, ((blk_facts (wEx_3 w)).1 8), ((blk_facts (wEx_3 w)).1 9), ((blk_facts (wEx_3 w)).1 10), ((blk_facts (wEx_3 w)).1 11), ((blk_facts (wEx_3 w)).1 12), ((blk_facts (wEx_3 w)).1 13), ((blk_facts (wEx_3 w)).1 14), ((blk_facts (wEx_3 w)).1 15)⟩
  have x4 : insR (wEx w) (wEx w).heap.size (w.heap.size + 1 + 1 + 1 + 1) (0 * 8) i0ret := ⟨_, _, ⟨SlAt.nil_ strR 1 _ _, by decide, by decide, SlAt.nil_ strR 1 _ _, by decide, by decide, by decide, by decide, by decide, by decide, by decide⟩, ((blk_facts (wEx_4 w)).1 0), ((blk_facts (wEx_4 w)).1 1), ((blk_facts (wEx_4 w)).1 2), ((blk_facts (wEx_4 w)).1 3), ((blk_facts (wEx_4 w)).1 4), ((blk_facts (wEx_4 w)).1 5), ((blk_facts (wEx_4 w)).1 6), ((blk_facts (wEx_4 w)).1 7)⟩
  have c1 : CodeAt (wEx w) (wEx w).heap.size (.slice (some ⟨w.heap.size + 1, 0, none⟩) 1 1) [i0br] := slBlk rfl (by decide) (by omega) (get_one x1)
  have c3 : CodeAt (wEx w) (wEx w).heap.size (.slice (some ⟨w.heap.size + 1 + 1 + 1, 0, none⟩) 2 2) [i0null, i0goto] := slBlk rfl (by decide) (by omega) (get_two x2 x3)
  have c4 : CodeAt (wEx w) (wEx w).heap.size (.slice (some ⟨w.heap.size + 1 + 1 + 1 + 1, 0, none⟩) 1 1) [i0ret] := slBlk rfl (by decide) (by omega) (get_one x4)
  have bs : BlocksAt (wEx w) (wEx w).heap.size (.slice (some ⟨w.heap.size + 1 + 1 + 1 + 1 + 1, 0, none⟩) 3 3) b0 := slBlk rfl (by decide) (by omega) (get_three ⟨_, ⟨c1, by decide⟩, (blk_facts (wEx_5 w)).1 0, (blk_facts (wEx_5 w)).1 1⟩ ⟨_, ⟨c3, by decide⟩, (blk_facts (wEx_5 w)).1 2, (blk_facts (wEx_5 w)).1 3⟩ ⟨_, ⟨c4, by decide⟩, (blk_facts (wEx_5 w)).1 4, (blk_facts (wEx_5 w)).1 5⟩)
  exact slBlk rfl (by decide) (by omega) (get_one ⟨_, _, ⟨SlAt.nil_ strR 1 _ _, bs, by decide⟩, (blk_facts (wEx_6 w)).1 0, (blk_facts (wEx_6 w)).1 1, (blk_facts (wEx_6 w)).1 2⟩)

set_option maxRecDepth 100000 in
set_option maxHeartbeats 2000000 in
theorem checks_any (w : World) : Calls Tryz.prog 9 #[] w fun e w' => e = .returned (.bool true) ∧ w.grownBy w' none := by
  have hchk := check_any p0 _ _ (wEx w) (Nat.le_refl _) (wEx_prog w)
  rw [chk0] at hchk
  simp only [wrongV, wrongC] at hchk
  have hc := (blk_facts (wEx_7 w)).1 0
  have Hg := Lib.hid (wEx_grown w)
  have hw : wEx w = ((((((((w.alloc (.cells #[.string ⟨#[98]⟩, .string ⟨#[99]⟩] 9)).alloc (.cells #[.int .u8 12, .string ⟨#[]⟩, .string ⟨#[]⟩, .string ⟨#[]⟩, .int .i64 0, .string ⟨#[]⟩, .slice none 0 0, .slice (some ⟨w.heap.size, 0, none⟩) 2 2] 45)).alloc (.cells #[.string ⟨#[99]⟩] 9)).alloc (.cells #[.int .u8 3, .string ⟨#[120]⟩, .string ⟨#[]⟩, .string ⟨#[]⟩, .int .i64 0, .string ⟨#[]⟩, .slice none 0 0, .slice none 0 0, .int .u8 13, .string ⟨#[]⟩, .string ⟨#[]⟩, .string ⟨#[]⟩, .int .i64 0, .string ⟨#[]⟩, .slice none 0 0, .slice (some ⟨w.heap.size + 1 + 1, 0, none⟩) 1 1] 45)).alloc (.cells #[.int .u8 14, .string ⟨#[]⟩, .string ⟨#[120]⟩, .string ⟨#[]⟩, .int .i64 0, .string ⟨#[]⟩, .slice none 0 0, .slice none 0 0] 45)).alloc (.cells #[.string ⟨#[97]⟩, .slice (some ⟨w.heap.size + 1, 0, none⟩) 1 1, .string ⟨#[98]⟩, .slice (some ⟨w.heap.size + 1 + 1 + 1, 0, none⟩) 2 2, .string ⟨#[99]⟩, .slice (some ⟨w.heap.size + 1 + 1 + 1 + 1, 0, none⟩) 1 1] 42)).alloc (.cells #[.string ⟨#[109, 97, 105, 110]⟩, .slice none 0 0, .slice (some ⟨w.heap.size + 1 + 1 + 1 + 1 + 1, 0, none⟩) 3 3] 37)).alloc (.cells #[.slice (some ⟨w.heap.size + 1 + 1 + 1 + 1 + 1 + 1, 0, none⟩) 1 1] 24)) := rfl
  go_enter Tryz.func9, Tryz.ntmps9
  go_upto_region 2 with (fail)
  rw [← hw]
  clear hw
  go_wp2_with (go_at_call 8; refine hchk.mono ?_; rintro e w' ⟨rfl, hg'⟩)
  go_ret
  exact ⟨rfl, grown_trans Hg.out hg'⟩
end Go.Proofs.YtpemkbjbbcnddaaGreat
