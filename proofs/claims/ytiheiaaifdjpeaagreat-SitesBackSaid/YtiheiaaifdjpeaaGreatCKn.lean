/- A known program, as law12_known builds it. No condition. -/
import Derived.Test.YtiheiaaifdjpeaaGreatCMet
import Derived.Test.YtiheiaaifdjpeaaGreatCSitN
set_option linter.unusedVariables false
set_option linter.unusedSimpArgs false
set_option linter.unusedSectionVars false
set_option maxHeartbeats 4000000
set_option maxRecDepth 100000
namespace Go.Proofs.YtiheiaaifdjpeaaGreat
open Go.RowKit Go.Shelf
theorem slBlk' {α : Type} {R : Rdr α} {sz : Nat} {w : World} {B b n : Nat} {l : List α} (hn : n = l.length) (hm : n ≤ 65536) (hb : b < B) (h : ∀ k x, l[k]? = some x → R w B b (k * sz) x) : SlAt R sz w B (.slice (some ⟨b, 0, none⟩) n n) l := by
 subst hn
 exact ⟨_, _, rfl, Nat.le_refl _, by unfold maxLen; omega, fun k x hx => ⟨b, 0, rfl, hb, by rw [Nat.zero_add]; exact h k x hx⟩⟩
theorem get_nil' {α : Type} {P : Nat → α → Prop} : ∀ k x, ([] : List α)[k]? = some x → P k x := fun k x h => by simp at h
theorem get_cons' {α : Type} {P : Nat → α → Prop} {a : α} {l : List α} (h : P 0 a) (t : ∀ k x, l[k]? = some x → P (k + 1) x) : ∀ k x, (a :: l)[k]? = some x → P k x := by
 intro k x hx
 cases k with
 | zero => simp only [List.getElem?_cons_zero, Option.some.injEq] at hx; exact hx ▸ h
 | succ k => exact t k x (by simpa using hx)
def kn12l1 : List Str := [[97]]
def kn12l2 : List GIns := [⟨14, [], [97], [], 0, [], [], []⟩]
def kn12l3 : List GBlk := [⟨[101], kn12l2⟩]
def kn12l4 : List Str := [[112]]
def kn12l5 : List GIns := [⟨1, [112], [], [], 2, [], [], []⟩, ⟨2, [113], [], [], 1, [], [], []⟩, ⟨10, [120], [], [], 0, [102], kn12l4, []⟩, ⟨14, [], [], [], 0, [], [], []⟩]
def kn12l6 : List GBlk := [⟨[101], kn12l5⟩]
def kn12l7 : GProg := [⟨[102], kn12l1, kn12l3⟩, ⟨[109, 97, 105, 110], [], kn12l6⟩]
def kn12p : GProg := kn12l7
def wkn12 (w : World) : World := (((((((w.alloc (.cells #[.slice (some ⟨w.heap.size + 1 + 1 + 1 + 1 + 1 + 1 + 1, 0, none⟩) 2 2] 24)).alloc (.cells #[.string ⟨#[97]⟩] 9)).alloc (.cells #[.int .u8 14, .string ⟨#[]⟩, .string ⟨#[97]⟩, .string ⟨#[]⟩, .int .i64 0, .string ⟨#[]⟩, .slice none 0 0, .slice none 0 0] 38)).alloc (.cells #[.string ⟨#[101]⟩, .slice (some ⟨w.heap.size + 1 + 1, 0, none⟩) 1 1] 61)).alloc (.cells #[.string ⟨#[112]⟩] 9)).alloc (.cells #[.int .u8 1, .string ⟨#[112]⟩, .string ⟨#[]⟩, .string ⟨#[]⟩, .int .i64 2, .string ⟨#[]⟩, .slice none 0 0, .slice none 0 0, .int .u8 2, .string ⟨#[113]⟩, .string ⟨#[]⟩, .string ⟨#[]⟩, .int .i64 1, .string ⟨#[]⟩, .slice none 0 0, .slice none 0 0, .int .u8 10, .string ⟨#[120]⟩, .string ⟨#[]⟩, .string ⟨#[]⟩, .int .i64 0, .string ⟨#[102]⟩, .slice (some ⟨w.heap.size + 1 + 1 + 1 + 1, 0, none⟩) 1 1, .slice none 0 0, .int .u8 14, .string ⟨#[]⟩, .string ⟨#[]⟩, .string ⟨#[]⟩, .int .i64 0, .string ⟨#[]⟩, .slice none 0 0, .slice none 0 0] 38)).alloc (.cells #[.string ⟨#[101]⟩, .slice (some ⟨w.heap.size + 1 + 1 + 1 + 1 + 1, 0, none⟩) 4 4] 61)).alloc (.cells #[.string ⟨#[102]⟩, .slice (some ⟨w.heap.size + 1, 0, none⟩) 1 1, .slice (some ⟨w.heap.size + 1 + 1 + 1, 0, none⟩) 1 1, .string ⟨#[109, 97, 105, 110]⟩, .slice none 0 0, .slice (some ⟨w.heap.size + 1 + 1 + 1 + 1 + 1 + 1, 0, none⟩) 1 1] 58)
theorem wkn12_size (w : World) : (wkn12 w).heap.size = w.heap.size + 8 := by simp [wkn12]
theorem wkn12_grown (w : World) : w.grownBy (wkn12 w) none := by
 unfold wkn12
 repeat (first | exact World.grownBy_alloc _ _ _ | refine grown_alloc ?_ _)
theorem wkn12_1 (w : World) : (wkn12 w).heap[w.heap.size + 1]? = some (.cells #[.string ⟨#[97]⟩] 9 (0, 0)) := by
 have h := World.alloc_heap_new (w.alloc (.cells #[.slice (some ⟨w.heap.size + 1 + 1 + 1 + 1 + 1 + 1 + 1, 0, none⟩) 2 2] 24)) (.cells #[.string ⟨#[97]⟩] 9)
 simp only [World.size_alloc] at h
 exact seen_alloc (seen_alloc (seen_alloc (seen_alloc (seen_alloc (seen_alloc (h) _) _) _) _) _) _
theorem wkn12_2 (w : World) : (wkn12 w).heap[w.heap.size + 1 + 1]? = some (.cells #[.int .u8 14, .string ⟨#[]⟩, .string ⟨#[97]⟩, .string ⟨#[]⟩, .int .i64 0, .string ⟨#[]⟩, .slice none 0 0, .slice none 0 0] 38 (0, 0)) := by
 have h := World.alloc_heap_new ((w.alloc (.cells #[.slice (some ⟨w.heap.size + 1 + 1 + 1 + 1 + 1 + 1 + 1, 0, none⟩) 2 2] 24)).alloc (.cells #[.string ⟨#[97]⟩] 9)) (.cells #[.int .u8 14, .string ⟨#[]⟩, .string ⟨#[97]⟩, .string ⟨#[]⟩, .int .i64 0, .string ⟨#[]⟩, .slice none 0 0, .slice none 0 0] 38)
 simp only [World.size_alloc] at h
 exact seen_alloc (seen_alloc (seen_alloc (seen_alloc (seen_alloc (h) _) _) _) _) _
theorem wkn12_3 (w : World) : (wkn12 w).heap[w.heap.size + 1 + 1 + 1]? = some (.cells #[.string ⟨#[101]⟩, .slice (some ⟨w.heap.size + 1 + 1, 0, none⟩) 1 1] 61 (0, 0)) := by
 have h := World.alloc_heap_new (((w.alloc (.cells #[.slice (some ⟨w.heap.size + 1 + 1 + 1 + 1 + 1 + 1 + 1, 0, none⟩) 2 2] 24)).alloc (.cells #[.string ⟨#[97]⟩] 9)).alloc (.cells #[.int .u8 14, .string ⟨#[]⟩, .string ⟨#[97]⟩, .string ⟨#[]⟩, .int .i64 0, .string ⟨#[]⟩, .slice none 0 0, .slice none 0 0] 38)) (.cells #[.string ⟨#[101]⟩, .slice (some ⟨w.heap.size + 1 + 1, 0, none⟩) 1 1] 61)
 simp only [World.size_alloc] at h
 exact seen_alloc (seen_alloc (seen_alloc (seen_alloc (h) _) _) _) _
theorem wkn12_4 (w : World) : (wkn12 w).heap[w.heap.size + 1 + 1 + 1 + 1]? = some (.cells #[.string ⟨#[112]⟩] 9 (0, 0)) := by
 have h := World.alloc_heap_new ((((w.alloc (.cells #[.slice (some ⟨w.heap.size + 1 + 1 + 1 + 1 + 1 + 1 + 1, 0, none⟩) 2 2] 24)).alloc (.cells #[.string ⟨#[97]⟩] 9)).alloc (.cells #[.int .u8 14, .string ⟨#[]⟩, .string ⟨#[97]⟩, .string ⟨#[]⟩, .int .i64 0, .string ⟨#[]⟩, .slice none 0 0, .slice none 0 0] 38)).alloc (.cells #[.string ⟨#[101]⟩, .slice (some ⟨w.heap.size + 1 + 1, 0, none⟩) 1 1] 61)) (.cells #[.string ⟨#[112]⟩] 9)
 simp only [World.size_alloc] at h
 exact seen_alloc (seen_alloc (seen_alloc (h) _) _) _
theorem wkn12_5 (w : World) : (wkn12 w).heap[w.heap.size + 1 + 1 + 1 + 1 + 1]? = some (.cells #[.int .u8 1, .string ⟨#[112]⟩, .string ⟨#[]⟩, .string ⟨#[]⟩, .int .i64 2, .string ⟨#[]⟩, .slice none 0 0, .slice none 0 0, .int .u8 2, .string ⟨#[113]⟩, .string ⟨#[]⟩, .string ⟨#[]⟩, .int .i64 1, .string ⟨#[]⟩, .slice none 0 0, .slice none 0 0, .int .u8 10, .string ⟨#[120]⟩, .string ⟨#[]⟩, .string ⟨#[]⟩, .int .i64 0, .string ⟨#[102]⟩, .slice (some ⟨w.heap.size + 1 + 1 + 1 + 1, 0, none⟩) 1 1, .slice none 0 0, .int .u8 14, .string ⟨#[]⟩, .string ⟨#[]⟩, .string ⟨#[]⟩, .int .i64 0, .string ⟨#[]⟩, .slice none 0 0, .slice none 0 0] 38 (0, 0)) := by
 have h := World.alloc_heap_new (((((w.alloc (.cells #[.slice (some ⟨w.heap.size + 1 + 1 + 1 + 1 + 1 + 1 + 1, 0, none⟩) 2 2] 24)).alloc (.cells #[.string ⟨#[97]⟩] 9)).alloc (.cells #[.int .u8 14, .string ⟨#[]⟩, .string ⟨#[97]⟩, .string ⟨#[]⟩, .int .i64 0, .string ⟨#[]⟩, .slice none 0 0, .slice none 0 0] 38)).alloc (.cells #[.string ⟨#[101]⟩, .slice (some ⟨w.heap.size + 1 + 1, 0, none⟩) 1 1] 61)).alloc (.cells #[.string ⟨#[112]⟩] 9)) (.cells #[.int .u8 1, .string ⟨#[112]⟩, .string ⟨#[]⟩, .string ⟨#[]⟩, .int .i64 2, .string ⟨#[]⟩, .slice none 0 0, .slice none 0 0, .int .u8 2, .string ⟨#[113]⟩, .string ⟨#[]⟩, .string ⟨#[]⟩, .int .i64 1, .string ⟨#[]⟩, .slice none 0 0, .slice none 0 0, .int .u8 10, .string ⟨#[120]⟩, .string ⟨#[]⟩, .string ⟨#[]⟩, .int .i64 0, .string ⟨#[102]⟩, .slice (some ⟨w.heap.size + 1 + 1 + 1 + 1, 0, none⟩) 1 1, .slice none 0 0, .int .u8 14, .string ⟨#[]⟩, .string ⟨#[]⟩, .string ⟨#[]⟩, .int .i64 0, .string ⟨#[]⟩, .slice none 0 0, .slice none 0 0] 38)
 simp only [World.size_alloc] at h
 exact seen_alloc (seen_alloc (h) _) _
theorem wkn12_6 (w : World) : (wkn12 w).heap[w.heap.size + 1 + 1 + 1 + 1 + 1 + 1]? = some (.cells #[.string ⟨#[101]⟩, .slice (some ⟨w.heap.size + 1 + 1 + 1 + 1 + 1, 0, none⟩) 4 4] 61 (0, 0)) := by
 have h := World.alloc_heap_new ((((((w.alloc (.cells #[.slice (some ⟨w.heap.size + 1 + 1 + 1 + 1 + 1 + 1 + 1, 0, none⟩) 2 2] 24)).alloc (.cells #[.string ⟨#[97]⟩] 9)).alloc (.cells #[.int .u8 14, .string ⟨#[]⟩, .string ⟨#[97]⟩, .string ⟨#[]⟩, .int .i64 0, .string ⟨#[]⟩, .slice none 0 0, .slice none 0 0] 38)).alloc (.cells #[.string ⟨#[101]⟩, .slice (some ⟨w.heap.size + 1 + 1, 0, none⟩) 1 1] 61)).alloc (.cells #[.string ⟨#[112]⟩] 9)).alloc (.cells #[.int .u8 1, .string ⟨#[112]⟩, .string ⟨#[]⟩, .string ⟨#[]⟩, .int .i64 2, .string ⟨#[]⟩, .slice none 0 0, .slice none 0 0, .int .u8 2, .string ⟨#[113]⟩, .string ⟨#[]⟩, .string ⟨#[]⟩, .int .i64 1, .string ⟨#[]⟩, .slice none 0 0, .slice none 0 0, .int .u8 10, .string ⟨#[120]⟩, .string ⟨#[]⟩, .string ⟨#[]⟩, .int .i64 0, .string ⟨#[102]⟩, .slice (some ⟨w.heap.size + 1 + 1 + 1 + 1, 0, none⟩) 1 1, .slice none 0 0, .int .u8 14, .string ⟨#[]⟩, .string ⟨#[]⟩, .string ⟨#[]⟩, .int .i64 0, .string ⟨#[]⟩, .slice none 0 0, .slice none 0 0] 38)) (.cells #[.string ⟨#[101]⟩, .slice (some ⟨w.heap.size + 1 + 1 + 1 + 1 + 1, 0, none⟩) 4 4] 61)
 simp only [World.size_alloc] at h
 exact seen_alloc (h) _
theorem wkn12_7 (w : World) : (wkn12 w).heap[w.heap.size + 1 + 1 + 1 + 1 + 1 + 1 + 1]? = some (.cells #[.string ⟨#[102]⟩, .slice (some ⟨w.heap.size + 1, 0, none⟩) 1 1, .slice (some ⟨w.heap.size + 1 + 1 + 1, 0, none⟩) 1 1, .string ⟨#[109, 97, 105, 110]⟩, .slice none 0 0, .slice (some ⟨w.heap.size + 1 + 1 + 1 + 1 + 1 + 1, 0, none⟩) 1 1] 58 (0, 0)) := by
 have h := World.alloc_heap_new (((((((w.alloc (.cells #[.slice (some ⟨w.heap.size + 1 + 1 + 1 + 1 + 1 + 1 + 1, 0, none⟩) 2 2] 24)).alloc (.cells #[.string ⟨#[97]⟩] 9)).alloc (.cells #[.int .u8 14, .string ⟨#[]⟩, .string ⟨#[97]⟩, .string ⟨#[]⟩, .int .i64 0, .string ⟨#[]⟩, .slice none 0 0, .slice none 0 0] 38)).alloc (.cells #[.string ⟨#[101]⟩, .slice (some ⟨w.heap.size + 1 + 1, 0, none⟩) 1 1] 61)).alloc (.cells #[.string ⟨#[112]⟩] 9)).alloc (.cells #[.int .u8 1, .string ⟨#[112]⟩, .string ⟨#[]⟩, .string ⟨#[]⟩, .int .i64 2, .string ⟨#[]⟩, .slice none 0 0, .slice none 0 0, .int .u8 2, .string ⟨#[113]⟩, .string ⟨#[]⟩, .string ⟨#[]⟩, .int .i64 1, .string ⟨#[]⟩, .slice none 0 0, .slice none 0 0, .int .u8 10, .string ⟨#[120]⟩, .string ⟨#[]⟩, .string ⟨#[]⟩, .int .i64 0, .string ⟨#[102]⟩, .slice (some ⟨w.heap.size + 1 + 1 + 1 + 1, 0, none⟩) 1 1, .slice none 0 0, .int .u8 14, .string ⟨#[]⟩, .string ⟨#[]⟩, .string ⟨#[]⟩, .int .i64 0, .string ⟨#[]⟩, .slice none 0 0, .slice none 0 0] 38)).alloc (.cells #[.string ⟨#[101]⟩, .slice (some ⟨w.heap.size + 1 + 1 + 1 + 1 + 1, 0, none⟩) 4 4] 61)) (.cells #[.string ⟨#[102]⟩, .slice (some ⟨w.heap.size + 1, 0, none⟩) 1 1, .slice (some ⟨w.heap.size + 1 + 1 + 1, 0, none⟩) 1 1, .string ⟨#[109, 97, 105, 110]⟩, .slice none 0 0, .slice (some ⟨w.heap.size + 1 + 1 + 1 + 1 + 1 + 1, 0, none⟩) 1 1] 58)
 simp only [World.size_alloc] at h
 exact h
theorem wkn12_c (w : World) : (wkn12 w).heap[w.heap.size]? = some (.cells #[.slice (some ⟨w.heap.size + 1 + 1 + 1 + 1 + 1 + 1 + 1, 0, none⟩) 2 2] 24 (0, 0)) := by
 have h := World.alloc_heap_new w (.cells #[.slice (some ⟨w.heap.size + 1 + 1 + 1 + 1 + 1 + 1 + 1, 0, none⟩) 2 2] 24)
 exact seen_alloc (seen_alloc (seen_alloc (seen_alloc (seen_alloc (seen_alloc (seen_alloc (h) _) _) _) _) _) _) _
theorem wkn12_prog (w : World) : ProgAt (wkn12 w) (wkn12 w).heap.size (.slice (some ⟨w.heap.size + 1 + 1 + 1 + 1 + 1 + 1 + 1, 0, none⟩) 2 2) kn12p := by
 have hs := wkn12_size w
 have h1 : StrsAt (wkn12 w) (wkn12 w).heap.size (.slice (some ⟨w.heap.size + 1, 0, none⟩) 1 1) kn12l1 := slBlk' rfl (by decide) (by omega) (get_cons' ⟨(blk_facts (wkn12_1 w)).1 0, by decide⟩ get_nil')
 have h2 : CodeAt (wkn12 w) (wkn12 w).heap.size (.slice (some ⟨w.heap.size + 1 + 1, 0, none⟩) 1 1) kn12l2 := slBlk' rfl (by decide) (by omega) (get_cons' ⟨_, _, ⟨SlAt.nil_ strR 1 _ _, by decide, by decide, SlAt.nil_ strR 1 _ _, by decide, by decide, by decide, by decide, by decide, by decide, by decide⟩, (blk_facts (wkn12_2 w)).1 0, (blk_facts (wkn12_2 w)).1 1, (blk_facts (wkn12_2 w)).1 2, (blk_facts (wkn12_2 w)).1 3, (blk_facts (wkn12_2 w)).1 4, (blk_facts (wkn12_2 w)).1 5, (blk_facts (wkn12_2 w)).1 6, (blk_facts (wkn12_2 w)).1 7⟩ get_nil')
 have h3 : BlocksAt (wkn12 w) (wkn12 w).heap.size (.slice (some ⟨w.heap.size + 1 + 1 + 1, 0, none⟩) 1 1) kn12l3 := slBlk' rfl (by decide) (by omega) (get_cons' ⟨_, ⟨h2, by decide⟩, (blk_facts (wkn12_3 w)).1 0, (blk_facts (wkn12_3 w)).1 1⟩ get_nil')
 have h4 : StrsAt (wkn12 w) (wkn12 w).heap.size (.slice (some ⟨w.heap.size + 1 + 1 + 1 + 1, 0, none⟩) 1 1) kn12l4 := slBlk' rfl (by decide) (by omega) (get_cons' ⟨(blk_facts (wkn12_4 w)).1 0, by decide⟩ get_nil')
 have h5 : CodeAt (wkn12 w) (wkn12 w).heap.size (.slice (some ⟨w.heap.size + 1 + 1 + 1 + 1 + 1, 0, none⟩) 4 4) kn12l5 := slBlk' rfl (by decide) (by omega) (get_cons' ⟨_, _, ⟨SlAt.nil_ strR 1 _ _, by decide, by decide, SlAt.nil_ strR 1 _ _, by decide, by decide, by decide, by decide, by decide, by decide, by decide⟩, (blk_facts (wkn12_5 w)).1 0, (blk_facts (wkn12_5 w)).1 1, (blk_facts (wkn12_5 w)).1 2, (blk_facts (wkn12_5 w)).1 3, (blk_facts (wkn12_5 w)).1 4, (blk_facts (wkn12_5 w)).1 5, (blk_facts (wkn12_5 w)).1 6, (blk_facts (wkn12_5 w)).1 7⟩ (get_cons' ⟨_, _, ⟨SlAt.nil_ strR 1 _ _, by decide, by decide, SlAt.nil_ strR 1 _ _, by decide, by decide, by decide, by decide, by decide, by decide, by decide⟩, (blk_facts (wkn12_5 w)).1 8, (blk_facts (wkn12_5 w)).1 9, (blk_facts (wkn12_5 w)).1 10, (blk_facts (wkn12_5 w)).1 11, (blk_facts (wkn12_5 w)).1 12, (blk_facts (wkn12_5 w)).1 13, (blk_facts (wkn12_5 w)).1 14, (blk_facts (wkn12_5 w)).1 15⟩ (get_cons' ⟨_, _, ⟨h4, by decide, by decide, SlAt.nil_ strR 1 _ _, by decide, by decide, by decide, by decide, by decide, by decide, by decide⟩, (blk_facts (wkn12_5 w)).1 16, (blk_facts (wkn12_5 w)).1 17, (blk_facts (wkn12_5 w)).1 18, (blk_facts (wkn12_5 w)).1 19, (blk_facts (wkn12_5 w)).1 20, (blk_facts (wkn12_5 w)).1 21, (blk_facts (wkn12_5 w)).1 22, (blk_facts (wkn12_5 w)).1 23⟩ (get_cons' ⟨_, _, ⟨SlAt.nil_ strR 1 _ _, by decide, by decide, SlAt.nil_ strR 1 _ _, by decide, by decide, by decide, by decide, by decide, by decide, by decide⟩, (blk_facts (wkn12_5 w)).1 24, (blk_facts (wkn12_5 w)).1 25, (blk_facts (wkn12_5 w)).1 26, (blk_facts (wkn12_5 w)).1 27, (blk_facts (wkn12_5 w)).1 28, (blk_facts (wkn12_5 w)).1 29, (blk_facts (wkn12_5 w)).1 30, (blk_facts (wkn12_5 w)).1 31⟩ get_nil'))))
 have h6 : BlocksAt (wkn12 w) (wkn12 w).heap.size (.slice (some ⟨w.heap.size + 1 + 1 + 1 + 1 + 1 + 1, 0, none⟩) 1 1) kn12l6 := slBlk' rfl (by decide) (by omega) (get_cons' ⟨_, ⟨h5, by decide⟩, (blk_facts (wkn12_6 w)).1 0, (blk_facts (wkn12_6 w)).1 1⟩ get_nil')
 have h7 : ProgAt (wkn12 w) (wkn12 w).heap.size (.slice (some ⟨w.heap.size + 1 + 1 + 1 + 1 + 1 + 1 + 1, 0, none⟩) 2 2) kn12l7 := slBlk' rfl (by decide) (by omega) (get_cons' ⟨_, _, ⟨h1, h3, by decide⟩, (blk_facts (wkn12_7 w)).1 0, (blk_facts (wkn12_7 w)).1 1, (blk_facts (wkn12_7 w)).1 2⟩ (get_cons' ⟨_, _, ⟨SlAt.nil_ strR 1 _ _, h6, by decide⟩, (blk_facts (wkn12_7 w)).1 3, (blk_facts (wkn12_7 w)).1 4, (blk_facts (wkn12_7 w)).1 5⟩ get_nil'))
 exact h7
theorem kn12_any (w : World) : Calls Tryz.prog 53 #[] w fun e w' => e = .returned (.agg #[.slice (some ⟨w.heap.size + 1 + 1 + 1 + 1 + 1 + 1 + 1, 0, none⟩) 2 2]) ∧ w' = wkn12 w := by
 have hw : wkn12 w = (((((((w.alloc (.cells #[.slice (some ⟨w.heap.size + 1 + 1 + 1 + 1 + 1 + 1 + 1, 0, none⟩) 2 2] 24)).alloc (.cells #[.string ⟨#[97]⟩] 9)).alloc (.cells #[.int .u8 14, .string ⟨#[]⟩, .string ⟨#[97]⟩, .string ⟨#[]⟩, .int .i64 0, .string ⟨#[]⟩, .slice none 0 0, .slice none 0 0] 38)).alloc (.cells #[.string ⟨#[101]⟩, .slice (some ⟨w.heap.size + 1 + 1, 0, none⟩) 1 1] 61)).alloc (.cells #[.string ⟨#[112]⟩] 9)).alloc (.cells #[.int .u8 1, .string ⟨#[112]⟩, .string ⟨#[]⟩, .string ⟨#[]⟩, .int .i64 2, .string ⟨#[]⟩, .slice none 0 0, .slice none 0 0, .int .u8 2, .string ⟨#[113]⟩, .string ⟨#[]⟩, .string ⟨#[]⟩, .int .i64 1, .string ⟨#[]⟩, .slice none 0 0, .slice none 0 0, .int .u8 10, .string ⟨#[120]⟩, .string ⟨#[]⟩, .string ⟨#[]⟩, .int .i64 0, .string ⟨#[102]⟩, .slice (some ⟨w.heap.size + 1 + 1 + 1 + 1, 0, none⟩) 1 1, .slice none 0 0, .int .u8 14, .string ⟨#[]⟩, .string ⟨#[]⟩, .string ⟨#[]⟩, .int .i64 0, .string ⟨#[]⟩, .slice none 0 0, .slice none 0 0] 38)).alloc (.cells #[.string ⟨#[101]⟩, .slice (some ⟨w.heap.size + 1 + 1 + 1 + 1 + 1, 0, none⟩) 4 4] 61)).alloc (.cells #[.string ⟨#[102]⟩, .slice (some ⟨w.heap.size + 1, 0, none⟩) 1 1, .slice (some ⟨w.heap.size + 1 + 1 + 1, 0, none⟩) 1 1, .string ⟨#[109, 97, 105, 110]⟩, .slice none 0 0, .slice (some ⟨w.heap.size + 1 + 1 + 1 + 1 + 1 + 1, 0, none⟩) 1 1] 58) := rfl
 have hc := (blk_facts (wkn12_c w)).1 0
 go_enter Tryz.func53, Tryz.ntmps53
 go_wp2
 rw [← hw]
 clear hw
 refine bodyPost_ret (v := .agg #[.slice (some ⟨w.heap.size + 1 + 1 + 1 + 1 + 1 + 1 + 1, 0, none⟩) 2 2]) (by simp [results, Tryz.results53, go_sem, hc]) rfl ⟨rfl, rfl⟩
end Go.Proofs.YtiheiaaifdjpeaaGreat
namespace Go.Proofs.YtiheiaaifdjpeaaGreat
def atS (f : GFun) (s : Str) (i : Nat) : Bool := if (defsAt f s).1 = 0 then decide ((defsAt f s).2 < i) else (decide (s = nought) || decide ((defsAt f s).1 < 0))
def straightF (f : GFun) : Bool := f.blocks.length == 1 && f.blocks.all fun y => y.code.zipIdx.all fun q => !(q.1.op == 6) && !(q.1.labels.contains (headL f)) && (usesL q.1).all fun s => atS f s q.2
theorem atS_at {f : GFun} {s : Str} {i : Nat} (h : atS f s i = true) : atB f s 0 i = true := by
 unfold atS at h
 unfold atB
 by_cases hd : (defsAt f s).1 = 0
 ·rw [if_pos hd] at h
  rw [if_pos (by simpa using hd)]
  exact h
 ·rw [if_neg hd] at h
  rw [if_neg (by simpa using hd)]
  unfold atEndB
  simp only [Bool.or_eq_true, decide_eq_true_eq] at h
  rcases h with h | h
  ·simp [h]
  ·simp [h]
theorem straight_none {f : GFun} (h : straightF f = true) : ∀ r ∈ rulesL, sndRule f r = none := by
 simp only [straightF, Bool.and_eq_true, beq_iff_eq, List.all_eq_true] at h
 obtain ⟨hl, ha⟩ := h
 have key : ∀ b y, f.blocks[b]? = some y → ∀ i x, y.code[i]? = some x → b = 0 ∧ (x.op == 6) = false ∧ x.labels.contains (headL f) = false ∧ ∀ s ∈ usesL x, atS f s i = true := by
  intro b y hy i x hx
  have hb := (List.getElem?_eq_some_iff.1 hy).1
  have hm : (x, i) ∈ y.code.zipIdx := by
   rw [List.mem_zipIdx_iff_getElem?]
   exact hx
  have h1 := ha y (List.mem_of_getElem? hy) (x, i) hm
  simp only [Bool.and_eq_true, Bool.not_eq_true', List.all_eq_true] at h1
  exact ⟨by omega, h1.1.1, h1.1.2, h1.2⟩
 intro r hr
 simp only [rulesL, List.mem_cons, List.not_mem_nil, or_false] at hr
 rcases hr with rfl | rfl | rfl | rfl
 ·show findF f (entryQ f) = none
  refine findF_none fun b _ y hy => findC_none fun i _ x hx => ?_
  obtain ⟨_, _, h3, _⟩ := key b y hy i x hx
  unfold entryQ
  rw [h3, Bool.and_false]
 ·show unreachedR f = none
  unfold unreachedR
  rw [Option.map_eq_none_iff, List.find?_eq_none]
  intro k hk
  have hk0 : k = 0 := by rw [List.mem_range] at hk; omega
  subst hk0
  have : Path (succG f.blocks) 0 0 := .refl
  simp [reachB, this]
 ·show findF f (phiQ f) = none
  refine findF_none fun b _ y hy => findC_none fun i _ x hx => ?_
  obtain ⟨_, h2, _, _⟩ := key b y hy i x hx
  unfold phiQ
  rw [h2]
  rfl
 ·show findF f (notDomQ f) = none
  refine findF_none fun b _ y hy => findC_none fun i _ x hx => ?_
  obtain ⟨rfl, h2, _, h4⟩ := key b y hy i x hx
  unfold notDomQ
  rw [if_neg (by simpa using h2), List.any_eq_false]
  intro s hs
  rw [atS_at (h4 s hs)]
  simp
theorem snd_straight {p : GProg} (h0 : (namesChk p).1 = 0) (h1 : p.all straightF = true) (hv : nVars p ≤ 65536) (hf : nFlds p ≤ 65536) : sndChk p = (0, (0, 0, 0)) := by
 rw [sndChk_none h0 (fun r hr => sndR_none fun j hj f hf => ?_), if_neg (by omega)]
 exact straight_none (List.all_eq_true.1 h1 f (List.mem_of_getElem? hf)) r hr
end Go.Proofs.YtiheiaaifdjpeaaGreat
namespace Go.Proofs.YtiheiaaifdjpeaaGreat
open Go.RowKit Go.Shelf
theorem cpOk_of {p : GProg} (h : NOk p) : CpOk p := by
 have hat : ∀ f ∈ p, ∃ i, p[i]? = some f := fun f hf => by
  obtain ⟨i, hi, e⟩ := List.mem_iff_getElem.1 hf
  exact ⟨i, by rw [← e]; exact List.getElem?_eq_getElem hi⟩
 refine ⟨fun e => ?_, by have := h.funcs; omega, fun f hf => ?_, fun f hf => ?_, fun f hf y hy => ?_⟩
 ·have := h.funcs
  rw [e] at this
  simp at this
 ·obtain ⟨i, hi⟩ := hat f hf
  have := h.params hi
  omega
 ·obtain ⟨i, hi⟩ := hat f hf
  have := h.blocks hi
  exact ⟨fun e => by rw [e] at this; simp at this, by omega⟩
 ·obtain ⟨i, hi⟩ := hat f hf
  obtain ⟨b, hb, e⟩ := List.mem_iff_getElem.1 hy
  have hy' : f.blocks[b]? = some y := by rw [← e]; exact List.getElem?_eq_getElem hb
  have := h.code hi hy'
  exact ⟨(h.ends hi hy').1, by omega⟩
theorem nOk_of {p : GProg} (h : (sndChk p).1 = 0) : NOk p := (namesOk (by
                                                                       by_cases h0 : (namesChk p).1 = 0
                                                                       ·exact h0
                                                                       ·exact absurd (by rw [← sndChk_names h0]; exact h) h0)).2
theorem rowI_at {w : World} {base : Nat} {v : Value} {l : List Int} (h : w.ownsRow base 3 1 v l.length (l.map encI)) (hb : ∀ x ∈ l, -9223372036854775808 ≤ x ∧ x ≤ 9223372036854775807) : SlAt intR 1 w w.heap.size v l := by
 refine SlAt.of_ownN h rfl (fun g e => (h.lt g e).2) fun g k x e hx => ?_
 obtain ⟨A', c', rfl, _, _, h0, h1⟩ := owns_slice' h
 cases A' with
 | none => simp [Value.ownBlock] at e
 | some a =>
  obtain ⟨ha, -, -⟩ := h1 a rfl
  rw [ha] at h e
  simp only [Value.ownBlock, Option.map_some, Option.some.injEq] at e
  obtain ⟨_, _, _, _, h6⟩ := owns_cells h
  have hc := h6 k (encI x) (by rw [List.getElem?_map, hx]; rfl)
  rw [← e]
  refine ⟨?_, hb x (List.mem_of_getElem? hx)⟩
  rw [Nat.mul_one]
  exact hc
theorem kn12_chk : sndChk kn12p = (0, (0, 0, 0)) := snd_straight (by decide +kernel) (by decide +kernel) (by decide +kernel) (by decide +kernel)
theorem kn12_lens : (sitesTo kn12p kn12p.length).vars.length = 4 ∧ (sitesTo kn12p kn12p.length).of.length = 3 ∧ (sitesTo kn12p kn12p.length).pl.length = 5 ∧ kn12p.length = 2 ∧ (sitesTo kn12p kn12p.length).of[0]? = some 0 ∧ (sitesTo kn12p kn12p.length).sites[0]? = some ((1, 0, 0), 0, 2) ∧ varV kn12p 1 [112] = (1, true) ∧ retTo kn12p 0 (pts [⟨[102], kn12l1, kn12l3⟩]) = [0] := by decide +kernel
theorem wakes12_any (w : World) : Calls Tryz.prog 12 #[] w fun e w' => e = .returned (.bool true) ∧ w.grownBy w' none := by
 have hz : (sndChk kn12p).1 = 0 := by rw [kn12_chk]
 have hnew := new_any kn12p _ (wkn12 w) (wkn12 w).heap.size (Nat.le_refl _) (wkn12_prog w) (cpOk_of (nOk_of hz)) hz
 have Hg0 := Lib.hid (wkn12_grown w)
 obtain ⟨q1, q2, q3, q4, q5, q6, q7, q8⟩ := kn12_lens
 have HQ := Lib.hid (And.intro q1 (And.intro q2 (And.intro q3 (And.intro q4 (And.intro q5 (And.intro q6 (And.intro q7 q8)))))))
 clear q1 q2 q3 q4 q5 q6 q7 q8 hz
 obtain ⟨W0, hW0⟩ : ∃ W0, W0 = wkn12 w := ⟨_, rfl⟩
 have hkn := kn12_any w
 rw [← hW0] at hnew Hg0 hkn
 clear hW0
 go_enter Tryz.func12, Tryz.ntmps12
 go_upto_region 2 with (first | (go_at_call 53; refine hkn.mono ?_; rintro e w0 ⟨rfl, rfl⟩) | (go_at_call 13; refine hnew.mono ?_; rintro e w1 ⟨m, rfl, hM, hg1⟩))
 have HM := Lib.hid (show ∀ W, w1.grownBy W none → MapL _ W m kn12p from fun W hg => hM.grown hg)
 have h1 := mstep_any hM HQ.out.2.2.2.2.1 HQ.out.2.2.2.2.2.1 1
 have e1 : stepV 0 0 2 1 = (1, true) := by decide
 rw [e1] at h1
 have HG1 := Lib.hid (grown_trans Hg0.out hg1)
 clear hnew hM hg1 e1
 go_upto_region 5 with (first | (go_at_call 28; refine h1.mono ?_; rintro e w2 ⟨rfl, hg2⟩))
 have h2 := mvar_any (HM.out w2 hg2) 1 [112]
 rw [HQ.out.2.2.2.2.2.2.1] at h2
 go_upto_region 6 with (first | (go_at_call 21; refine h2.mono ?_; rintro e w3 ⟨rfl, hg3⟩))
 have hg13 := grown_trans hg2 hg3
 have h3 := mvars_any (HM.out w3 hg13)
 have h4 := mobjs_any (HM.out w3 hg13)
 have h5 := mfields_any (HM.out w3 hg13)
 have h6 := msize_any (HM.out w3 hg13)
 rw [HQ.out.1] at h3
 rw [HQ.out.2.1, HQ.out.2.2.2.1] at h4
 rw [HQ.out.2.1] at h5
 rw [HQ.out.2.1, HQ.out.2.2.1] at h6
 have Hg13 := Lib.hid hg13
 have Hr := Lib.hid (fun W (hg : w3.grownBy W none) => mrets_any (HM.out W (grown_trans hg13 hg)) (f := 0) (x := ⟨[102], kn12l1, kn12l3⟩) rfl)
 clear h1 h2 hg13 hg2 hg3
 go_wp2_with (first | (go_at_call 18; refine h3.mono ?_; rintro e w4 ⟨rfl, rfl⟩) | (go_at_call 19; refine h4.mono ?_; rintro e w4 ⟨rfl, rfl⟩) | (go_at_call 32; refine h5.mono ?_; rintro e w4 ⟨rfl, rfl⟩) | (go_at_call 36; refine h6.mono ?_; rintro e w5 ⟨rfl, hg5⟩) | (go_at_call 45; refine (Hr.out w5 hg5).mono ?_; rintro e w6 ⟨v, rfl, ho, hg6⟩))
 rw [HQ.out.2.2.2.2.2.2.2] at ho
 obtain ⟨w7, hw7⟩ : ∃ w7, w7 = w6.alloc (.cells #[.int .i64 0] 3) := ⟨_, rfl⟩
 have hb7 : w7.heap[w6.heap.size]? = some (.cells #[.int .i64 0] 3 (0, 0)) := by rw [hw7]; exact World.alloc_heap_new w6 _
 have hg67 : w6.grownBy w7 none := by rw [hw7]; exact World.grownBy_alloc w6 _ none
 have ho7 := (Chg.grown (Q := fun _ => False) hg67 (fun r e => by cases e)).owns ho (fun _ _ e => e)
 have a1 : SlAt intR 1 w7 w7.heap.size v [0] := rowI_at ho7 (by decide)
 have a2 : SlAt intR 1 w7 w7.heap.size (.slice (some ⟨w6.heap.size, 0, none⟩) 1 1) [0] := slBlk' rfl (by decide) (seen_lt hb7) (get_cons' ⟨(blk_facts hb7).1 0, by decide⟩ get_nil')
 have hsm := same_any [0] [0] _ _ _ _ a1 a2 (Nat.le_refl _)
 rw [show decide (([0] : List Int) = [0]) = true from rfl] at hsm
 have hG := grown_trans HG1.out (grown_trans Hg13.out (grown_trans hg5 (grown_trans hg6 hg67)))
 have HG := Lib.hid hG
 rw [← hw7]
 clear hw7 hb7 hg67 ho7 a1 a2 hG ho hg5 hg6
 refine hsm.mono ?_
 rintro e w8 ⟨rfl, hg8⟩
 go_wp2
 go_ret
 exact ⟨rfl, grown_trans HG.out hg8⟩
end Go.Proofs.YtiheiaaifdjpeaaGreat
namespace Go.Proofs.YtiheiaaifdjpeaaGreat
open Go.RowKit Go.Shelf
theorem great12_any (p : GProg) (vp : Value) (w : World) (B : Nat) (hB : B ≤ w.heap.size) (h : ProgAt w B vp p) : Calls Tryz.prog 11 #[.agg #[vp]] w fun e w' => ∃ b, e = .returned (.bool b) ∧ w.grownBy w' none := by
 obtain ⟨A, c, rfl, m1, m2, m3, hA⟩ := h.open_
 obtain ⟨W, hW⟩ : ∃ W : World, W = w.alloc (.cells #[.slice A p.length c] 24) := ⟨_, rfl⟩
 have hgW : w.grownBy W none := by rw [hW]; exact World.grownBy_alloc _ _ _
 have hb : W.heap[w.heap.size]? = some (.cells #[.slice A p.length c] 24 (0, 0)) := by rw [hW]; exact World.alloc_heap_new _ _
 have HS := Lib.hid (show ∀ W', W.grownBy W' none → W'.cell? ⟨w.heap.size, 0, none⟩ = some (.slice A p.length c) from fun W' hg => (World.cell?_of_block (hg.block w.heap.size (seen_lt hb) (by simp))).trans ((blk_facts hb).1 0))
 have HgW := Lib.hid hgW
 have HA := Lib.hid hA
 have hc := HS.out W (World.grownBy.refl _ _)
 clear hb hgW hA h
 go_enter Tryz.func11, Tryz.ntmps11
 go_upto_region 1 with (fail)
 rw [← hW]
 clear hW
 by_cases h6 : (6 : Int) < p.length
 ·go_wp2
  go_ret
  exact ⟨_, rfl, HgW.out⟩
 ·go_wp2
  clear hc
  go_loopw [3, 4] (fun s3 s4 wr => ∃ (z : Int) (i : Nat), i ≤ p.length ∧ s3 = .int .i64 z ∧ s4 = .int .i64 i ∧ Hid (W.grownBy wr none)) (fun _ s4 _ => p.length - (intOf s4).toNat)
  case atStart => exact ⟨0, 0, Nat.zero_le _, rfl, rfl, World.grownBy.refl _ _⟩
  case round =>
   obtain ⟨z, i, hi, rfl, rfl, hg⟩ := hrel
   have hc := HS.out wr hg.out
   by_cases hil : i < p.length
   ·obtain ⟨x, b, off, hx, rfl, hbB, hr⟩ := HA.out.at_ hil
    obtain ⟨A1, d1, A2, d2, hf, n1, n2, e0, e1, e2⟩ := funR_open hr
    have hbw : b < w.heap.size := by omega
    have hlow := grown_none (grown_trans HgW.out hg.out)
    have HF := Lib.hid (show ∀ W', wr.grownBy W' none → W'.cell? ⟨w.heap.size, 0, none⟩ = some (.slice (some ⟨b, off, none⟩) p.length c) ∧ W'.cell? ⟨b, off + i * 3 + 1, none⟩ = some (.slice A1 x.params.length d1) ∧ W'.cell? ⟨b, off + i * 3 + 2, none⟩ = some (.slice A2 x.blocks.length d2) from fun W' hg' => by
                        have hb' := grown_none (grown_trans HgW.out (grown_trans hg.out hg'))
                        exact ⟨HS.out W' (grown_trans hg.out hg'), cur hb' hbw e1, cur hb' hbw e2⟩)
    obtain ⟨k0, k1, k2⟩ := HF.out wr (World.grownBy.refl _ _)
    have HBl := Lib.hid hf.blocks
    have Hx := Lib.hid hx
    clear hx hr hf e0 e1 e2 hlow hc
    by_cases hbl : (20 : Int) < x.blocks.length
    ·go_wp2
     go_ret
     first | exact ⟨_, rfl, grown_trans HgW.out hg.out⟩ | exact ⟨.inl rfl, grown_trans HgW.out hg.out⟩ | exact ⟨.inr rfl, grown_trans HgW.out hg.out⟩
    ·by_cases hpl : (20 : Int) < x.params.length
     ·go_wp2
      go_ret
      first | exact ⟨_, rfl, grown_trans HgW.out hg.out⟩ | exact ⟨.inl rfl, grown_trans HgW.out hg.out⟩ | exact ⟨.inr rfl, grown_trans HgW.out hg.out⟩
     ·go_wp2
      clear k0 k1 k2
      go_loopw [3, 5] (fun s3 s5 wi => ∃ (z : Int) (k : Nat), k ≤ x.blocks.length ∧ s3 = .int .i64 z ∧ s5 = .int .i64 k ∧ Hid (wr.grownBy wi none)) (fun _ s5 _ => x.blocks.length - (intOf s5).toNat)
      case atStart => exact ⟨z, 0, Nat.zero_le _, rfl, rfl, World.grownBy.refl _ _⟩
      case round =>
       obtain ⟨z2, k, hk, rfl, rfl, hg2⟩ := hrel
       obtain ⟨k0, k1, k2⟩ := HF.out wr hg2.out
       by_cases hkl : k < x.blocks.length
       ·obtain ⟨y, b4, off4, hy, rfl, hb4, hby⟩ := HBl.out.at_ hkl
        obtain ⟨vc, hyb, y0, y1⟩ := hby
        obtain ⟨A5, d5, rfl, o1, o2, o3, -⟩ := hyb.code.open_
        have y1' := cur (grown_none (grown_trans HgW.out (grown_trans hg.out hg2.out))) (show b4 < w.heap.size by omega) y1
        clear hy y0 y1 hyb
        go_wp2
        go_roundw
        case rel => exact ⟨_, k + 1, by omega, rfl, by go_num, hg2.out⟩
        case measure => simp [intOf]; omega
       ·obtain rfl : k = x.blocks.length := by omega
        go_wp2
        go_roundw
        case rel => exact ⟨_, i + 1, by omega, rfl, by go_num, grown_trans hg.out hg2.out⟩
        case measure => simp [intOf]; omega
   ·obtain rfl : i = p.length := by omega
    go_wp2
    go_ret
    first | exact ⟨_, rfl, grown_trans HgW.out hg.out⟩ | exact ⟨.inl rfl, grown_trans HgW.out hg.out⟩ | exact ⟨.inr rfl, grown_trans HgW.out hg.out⟩
end Go.Proofs.YtiheiaaifdjpeaaGreat
