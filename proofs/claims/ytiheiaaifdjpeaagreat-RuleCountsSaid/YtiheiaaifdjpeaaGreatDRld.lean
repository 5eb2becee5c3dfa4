/- A known program, as law16_known builds it. No condition. -/
import Derived.Test.YtiheiaaifdjpeaaGreatDRlc
set_option linter.unusedVariables false
set_option linter.unusedSimpArgs false
set_option maxHeartbeats 4000000
set_option maxRecDepth 100000
namespace Go.Proofs.YtiheiaaifdjpeaaGreat
open Lib(hid)
open Go.RowKit Go.Shelf
def kn16l1 : List Str := [[97]]
def kn16l2 : List GIns := [⟨14, [], [97], [], 0, [], [], []⟩]
def kn16l3 : List GBlk := [⟨[101], kn16l2⟩]
def kn16l4 : List Str := [[112]]
def kn16l5 : List Str := [[113]]
def kn16l6 : List GIns := [⟨1, [112], [], [], 2, [], [], []⟩, ⟨7, [113], [112], [], 1, [], [], []⟩, ⟨9, [], [113], [112], 0, [], [], []⟩, ⟨10, [120], [], [], 0, [102], kn16l4, []⟩, ⟨11, [121], [120], [], 0, [], kn16l5, []⟩, ⟨14, [], [], [], 0, [], [], []⟩]
def kn16l7 : List GBlk := [⟨[101], kn16l6⟩]
def kn16l8 : GProg := [⟨[102], kn16l1, kn16l3⟩, ⟨[109, 97, 105, 110], [], kn16l7⟩]
def kn16p : GProg := kn16l8
def Y3 (w : World) : World := ((((((((w.alloc (.cells #[.slice (some ⟨w.heap.size + 1 + 1 + 1 + 1 + 1 + 1 + 1 + 1, 0, none⟩) 2 2] 24)).alloc (.cells #[.string ⟨#[97]⟩] 9)).alloc (.cells #[.int .u8 14, .string ⟨#[]⟩, .string ⟨#[97]⟩, .string ⟨#[]⟩, .int .i64 0, .string ⟨#[]⟩, .slice none 0 0, .slice none 0 0] 38)).alloc (.cells #[.string ⟨#[101]⟩, .slice (some ⟨w.heap.size + 1 + 1, 0, none⟩) 1 1] 61)).alloc (.cells #[.string ⟨#[112]⟩] 9)).alloc (.cells #[.string ⟨#[113]⟩] 9)).alloc (.cells #[.int .u8 1, .string ⟨#[112]⟩, .string ⟨#[]⟩, .string ⟨#[]⟩, .int .i64 2, .string ⟨#[]⟩, .slice none 0 0, .slice none 0 0, .int .u8 7, .string ⟨#[113]⟩, .string ⟨#[112]⟩, .string ⟨#[]⟩, .int .i64 1, .string ⟨#[]⟩, .slice none 0 0, .slice none 0 0, .int .u8 9, .string ⟨#[]⟩, .string ⟨#[113]⟩, .string ⟨#[112]⟩, .int .i64 0, .string ⟨#[]⟩, .slice none 0 0, .slice none 0 0, .int .u8 10, .string ⟨#[120]⟩, .string ⟨#[]⟩, .string ⟨#[]⟩, .int .i64 0, .string ⟨#[102]⟩, .slice (some ⟨w.heap.size + 1 + 1 + 1 + 1, 0, none⟩) 1 1, .slice none 0 0, .int .u8 11, .string ⟨#[121]⟩, .string ⟨#[120]⟩, .string ⟨#[]⟩, .int .i64 0, .string ⟨#[]⟩, .slice (some ⟨w.heap.size + 1 + 1 + 1 + 1 + 1, 0, none⟩) 1 1, .slice none 0 0, .int .u8 14, .string ⟨#[]⟩, .string ⟨#[]⟩, .string ⟨#[]⟩, .int .i64 0, .string ⟨#[]⟩, .slice none 0 0, .slice none 0 0] 38)).alloc (.cells #[.string ⟨#[101]⟩, .slice (some ⟨w.heap.size + 1 + 1 + 1 + 1 + 1 + 1, 0, none⟩) 6 6] 61)).alloc (.cells #[.string ⟨#[102]⟩, .slice (some ⟨w.heap.size + 1, 0, none⟩) 1 1, .slice (some ⟨w.heap.size + 1 + 1 + 1, 0, none⟩) 1 1, .string ⟨#[109, 97, 105, 110]⟩, .slice none 0 0, .slice (some ⟨w.heap.size + 1 + 1 + 1 + 1 + 1 + 1 + 1, 0, none⟩) 1 1] 58)
theorem Znu (w : World) : (Y3 w).heap.size = w.heap.size + 9 := by simp [Y3]
theorem Zlr (w : World) : w.grownBy (Y3 w) none := by
 unfold Y3
 repeat (first | exact World.grownBy_alloc _ _ _ | refine Zd ?_ _)
theorem wkn16_1 (w : World) : (Y3 w).heap[w.heap.size + 1]? = some (.cells #[.string ⟨#[97]⟩] 9 (0, 0)) := by
 have h := World.alloc_heap_new (w.alloc (.cells #[.slice (some ⟨w.heap.size + 1 + 1 + 1 + 1 + 1 + 1 + 1 + 1, 0, none⟩) 2 2] 24)) (.cells #[.string ⟨#[97]⟩] 9);simp only [World.size_alloc] at h;exact Zb (Zb (Zb (Zb (Zb (Zb (Zb (h) _) _) _) _) _) _) _
theorem Q7 (w : World) : (Y3 w).heap[w.heap.size + 1 + 1]? = some (.cells #[.int .u8 14, .string ⟨#[]⟩, .string ⟨#[97]⟩, .string ⟨#[]⟩, .int .i64 0, .string ⟨#[]⟩, .slice none 0 0, .slice none 0 0] 38 (0, 0)) := by
 have h := World.alloc_heap_new ((w.alloc (.cells #[.slice (some ⟨w.heap.size + 1 + 1 + 1 + 1 + 1 + 1 + 1 + 1, 0, none⟩) 2 2] 24)).alloc (.cells #[.string ⟨#[97]⟩] 9)) (.cells #[.int .u8 14, .string ⟨#[]⟩, .string ⟨#[97]⟩, .string ⟨#[]⟩, .int .i64 0, .string ⟨#[]⟩, .slice none 0 0, .slice none 0 0] 38);simp only [World.size_alloc] at h;exact Zb (Zb (Zb (Zb (Zb (Zb (h) _) _) _) _) _) _
theorem Zow (w : World) : (Y3 w).heap[w.heap.size + 1 + 1 + 1]? = some (.cells #[.string ⟨#[101]⟩, .slice (some ⟨w.heap.size + 1 + 1, 0, none⟩) 1 1] 61 (0, 0)) := by
 have h := World.alloc_heap_new (((w.alloc (.cells #[.slice (some ⟨w.heap.size + 1 + 1 + 1 + 1 + 1 + 1 + 1 + 1, 0, none⟩) 2 2] 24)).alloc (.cells #[.string ⟨#[97]⟩] 9)).alloc (.cells #[.int .u8 14, .string ⟨#[]⟩, .string ⟨#[97]⟩, .string ⟨#[]⟩, .int .i64 0, .string ⟨#[]⟩, .slice none 0 0, .slice none 0 0] 38)) (.cells #[.string ⟨#[101]⟩, .slice (some ⟨w.heap.size + 1 + 1, 0, none⟩) 1 1] 61);simp only [World.size_alloc] at h;exact Zb (Zb (Zb (Zb (Zb (h) _) _) _) _) _
theorem wkn16_4 (w : World) : (Y3 w).heap[w.heap.size + 1 + 1 + 1 + 1]? = some (.cells #[.string ⟨#[112]⟩] 9 (0, 0)) := by
 have h := World.alloc_heap_new ((((w.alloc (.cells #[.slice (some ⟨w.heap.size + 1 + 1 + 1 + 1 + 1 + 1 + 1 + 1, 0, none⟩) 2 2] 24)).alloc (.cells #[.string ⟨#[97]⟩] 9)).alloc (.cells #[.int .u8 14, .string ⟨#[]⟩, .string ⟨#[97]⟩, .string ⟨#[]⟩, .int .i64 0, .string ⟨#[]⟩, .slice none 0 0, .slice none 0 0] 38)).alloc (.cells #[.string ⟨#[101]⟩, .slice (some ⟨w.heap.size + 1 + 1, 0, none⟩) 1 1] 61)) (.cells #[.string ⟨#[112]⟩] 9);simp only [World.size_alloc] at h;exact Zb (Zb (Zb (Zb (h) _) _) _) _
theorem wkn16_5 (w : World) : (Y3 w).heap[w.heap.size + 1 + 1 + 1 + 1 + 1]? = some (.cells #[.string ⟨#[113]⟩] 9 (0, 0)) := by
 have h := World.alloc_heap_new (((((w.alloc (.cells #[.slice (some ⟨w.heap.size + 1 + 1 + 1 + 1 + 1 + 1 + 1 + 1, 0, none⟩) 2 2] 24)).alloc (.cells #[.string ⟨#[97]⟩] 9)).alloc (.cells #[.int .u8 14, .string ⟨#[]⟩, .string ⟨#[97]⟩, .string ⟨#[]⟩, .int .i64 0, .string ⟨#[]⟩, .slice none 0 0, .slice none 0 0] 38)).alloc (.cells #[.string ⟨#[101]⟩, .slice (some ⟨w.heap.size + 1 + 1, 0, none⟩) 1 1] 61)).alloc (.cells #[.string ⟨#[112]⟩] 9)) (.cells #[.string ⟨#[113]⟩] 9);simp only [World.size_alloc] at h;exact Zb (Zb (Zb (h) _) _) _
theorem Zy (w : World) : (Y3 w).heap[w.heap.size + 1 + 1 + 1 + 1 + 1 + 1]? = some (.cells #[.int .u8 1, .string ⟨#[112]⟩, .string ⟨#[]⟩, .string ⟨#[]⟩, .int .i64 2, .string ⟨#[]⟩, .slice none 0 0, .slice none 0 0, .int .u8 7, .string ⟨#[113]⟩, .string ⟨#[112]⟩, .string ⟨#[]⟩, .int .i64 1, .string ⟨#[]⟩, .slice none 0 0, .slice none 0 0, .int .u8 9, .string ⟨#[]⟩, .string ⟨#[113]⟩, .string ⟨#[112]⟩, .int .i64 0, .string ⟨#[]⟩, .slice none 0 0, .slice none 0 0, .int .u8 10, .string ⟨#[120]⟩, .string ⟨#[]⟩, .string ⟨#[]⟩, .int .i64 0, .string ⟨#[102]⟩, .slice (some ⟨w.heap.size + 1 + 1 + 1 + 1, 0, none⟩) 1 1, .slice none 0 0, .int .u8 11, .string ⟨#[121]⟩, .string ⟨#[120]⟩, .string ⟨#[]⟩, .int .i64 0, .string ⟨#[]⟩, .slice (some ⟨w.heap.size + 1 + 1 + 1 + 1 + 1, 0, none⟩) 1 1, .slice none 0 0, .int .u8 14, .string ⟨#[]⟩, .string ⟨#[]⟩, .string ⟨#[]⟩, .int .i64 0, .string ⟨#[]⟩, .slice none 0 0, .slice none 0 0] 38 (0, 0)) := by
 have h := World.alloc_heap_new ((((((w.alloc (.cells #[.slice (some ⟨w.heap.size + 1 + 1 + 1 + 1 + 1 + 1 + 1 + 1, 0, none⟩) 2 2] 24)).alloc (.cells #[.string ⟨#[97]⟩] 9)).alloc (.cells #[.int .u8 14, .string ⟨#[]⟩, .string ⟨#[97]⟩, .string ⟨#[]⟩, .int .i64 0, .string ⟨#[]⟩, .slice none 0 0, .slice none 0 0] 38)).alloc (.cells #[.string ⟨#[101]⟩, .slice (some ⟨w.heap.size + 1 + 1, 0, none⟩) 1 1] 61)).alloc (.cells #[.string ⟨#[112]⟩] 9)).alloc (.cells #[.string ⟨#[113]⟩] 9)) (.cells #[.int .u8 1, .string ⟨#[112]⟩, .string ⟨#[]⟩, .string ⟨#[]⟩, .int .i64 2, .string ⟨#[]⟩, .slice none 0 0, .slice none 0 0, .int .u8 7, .string ⟨#[113]⟩, .string ⟨#[112]⟩, .string ⟨#[]⟩, .int .i64 1, .string ⟨#[]⟩, .slice none 0 0, .slice none 0 0, .int .u8 9, .string ⟨#[]⟩, .string ⟨#[113]⟩, .string ⟨#[112]⟩, .int .i64 0, .string ⟨#[]⟩, .slice none 0 0, .slice none 0 0, .int .u8 10, .string ⟨#[120]⟩, .string ⟨#[]⟩, .string ⟨#[]⟩, .int .i64 0, .string ⟨#[102]⟩, .slice (some ⟨w.heap.size + 1 + 1 + 1 + 1, 0, none⟩) 1 1, .slice none 0 0, .int .u8 11, .string ⟨#[121]⟩, .string ⟨#[120]⟩, .string ⟨#[]⟩, .int .i64 0, .string ⟨#[]⟩, .slice (some ⟨w.heap.size + 1 + 1 + 1 + 1 + 1, 0, none⟩) 1 1, .slice none 0 0, .int .u8 14, .string ⟨#[]⟩, .string ⟨#[]⟩, .string ⟨#[]⟩, .int .i64 0, .string ⟨#[]⟩, .slice none 0 0, .slice none 0 0] 38);simp only [World.size_alloc] at h;exact Zb (Zb (h) _) _
theorem Zox (w : World) : (Y3 w).heap[w.heap.size + 1 + 1 + 1 + 1 + 1 + 1 + 1]? = some (.cells #[.string ⟨#[101]⟩, .slice (some ⟨w.heap.size + 1 + 1 + 1 + 1 + 1 + 1, 0, none⟩) 6 6] 61 (0, 0)) := by
 have h := World.alloc_heap_new (((((((w.alloc (.cells #[.slice (some ⟨w.heap.size + 1 + 1 + 1 + 1 + 1 + 1 + 1 + 1, 0, none⟩) 2 2] 24)).alloc (.cells #[.string ⟨#[97]⟩] 9)).alloc (.cells #[.int .u8 14, .string ⟨#[]⟩, .string ⟨#[97]⟩, .string ⟨#[]⟩, .int .i64 0, .string ⟨#[]⟩, .slice none 0 0, .slice none 0 0] 38)).alloc (.cells #[.string ⟨#[101]⟩, .slice (some ⟨w.heap.size + 1 + 1, 0, none⟩) 1 1] 61)).alloc (.cells #[.string ⟨#[112]⟩] 9)).alloc (.cells #[.string ⟨#[113]⟩] 9)).alloc (.cells #[.int .u8 1, .string ⟨#[112]⟩, .string ⟨#[]⟩, .string ⟨#[]⟩, .int .i64 2, .string ⟨#[]⟩, .slice none 0 0, .slice none 0 0, .int .u8 7, .string ⟨#[113]⟩, .string ⟨#[112]⟩, .string ⟨#[]⟩, .int .i64 1, .string ⟨#[]⟩, .slice none 0 0, .slice none 0 0, .int .u8 9, .string ⟨#[]⟩, .string ⟨#[113]⟩, .string ⟨#[112]⟩, .int .i64 0, .string ⟨#[]⟩, .slice none 0 0, .slice none 0 0, .int .u8 10, .string ⟨#[120]⟩, .string ⟨#[]⟩, .string ⟨#[]⟩, .int .i64 0, .string ⟨#[102]⟩, .slice (some ⟨w.heap.size + 1 + 1 + 1 + 1, 0, none⟩) 1 1, .slice none 0 0, .int .u8 11, .string ⟨#[121]⟩, .string ⟨#[120]⟩, .string ⟨#[]⟩, .int .i64 0, .string ⟨#[]⟩, .slice (some ⟨w.heap.size + 1 + 1 + 1 + 1 + 1, 0, none⟩) 1 1, .slice none 0 0, .int .u8 14, .string ⟨#[]⟩, .string ⟨#[]⟩, .string ⟨#[]⟩, .int .i64 0, .string ⟨#[]⟩, .slice none 0 0, .slice none 0 0] 38)) (.cells #[.string ⟨#[101]⟩, .slice (some ⟨w.heap.size + 1 + 1 + 1 + 1 + 1 + 1, 0, none⟩) 6 6] 61);simp only [World.size_alloc] at h;exact Zb (h) _
theorem Jv (w : World) : (Y3 w).heap[w.heap.size + 1 + 1 + 1 + 1 + 1 + 1 + 1 + 1]? = some (.cells #[.string ⟨#[102]⟩, .slice (some ⟨w.heap.size + 1, 0, none⟩) 1 1, .slice (some ⟨w.heap.size + 1 + 1 + 1, 0, none⟩) 1 1, .string ⟨#[109, 97, 105, 110]⟩, .slice none 0 0, .slice (some ⟨w.heap.size + 1 + 1 + 1 + 1 + 1 + 1 + 1, 0, none⟩) 1 1] 58 (0, 0)) := by
 have h := World.alloc_heap_new ((((((((w.alloc (.cells #[.slice (some ⟨w.heap.size + 1 + 1 + 1 + 1 + 1 + 1 + 1 + 1, 0, none⟩) 2 2] 24)).alloc (.cells #[.string ⟨#[97]⟩] 9)).alloc (.cells #[.int .u8 14, .string ⟨#[]⟩, .string ⟨#[97]⟩, .string ⟨#[]⟩, .int .i64 0, .string ⟨#[]⟩, .slice none 0 0, .slice none 0 0] 38)).alloc (.cells #[.string ⟨#[101]⟩, .slice (some ⟨w.heap.size + 1 + 1, 0, none⟩) 1 1] 61)).alloc (.cells #[.string ⟨#[112]⟩] 9)).alloc (.cells #[.string ⟨#[113]⟩] 9)).alloc (.cells #[.int .u8 1, .string ⟨#[112]⟩, .string ⟨#[]⟩, .string ⟨#[]⟩, .int .i64 2, .string ⟨#[]⟩, .slice none 0 0, .slice none 0 0, .int .u8 7, .string ⟨#[113]⟩, .string ⟨#[112]⟩, .string ⟨#[]⟩, .int .i64 1, .string ⟨#[]⟩, .slice none 0 0, .slice none 0 0, .int .u8 9, .string ⟨#[]⟩, .string ⟨#[113]⟩, .string ⟨#[112]⟩, .int .i64 0, .string ⟨#[]⟩, .slice none 0 0, .slice none 0 0, .int .u8 10, .string ⟨#[120]⟩, .string ⟨#[]⟩, .string ⟨#[]⟩, .int .i64 0, .string ⟨#[102]⟩, .slice (some ⟨w.heap.size + 1 + 1 + 1 + 1, 0, none⟩) 1 1, .slice none 0 0, .int .u8 11, .string ⟨#[121]⟩, .string ⟨#[120]⟩, .string ⟨#[]⟩, .int .i64 0, .string ⟨#[]⟩, .slice (some ⟨w.heap.size + 1 + 1 + 1 + 1 + 1, 0, none⟩) 1 1, .slice none 0 0, .int .u8 14, .string ⟨#[]⟩, .string ⟨#[]⟩, .string ⟨#[]⟩, .int .i64 0, .string ⟨#[]⟩, .slice none 0 0, .slice none 0 0] 38)).alloc (.cells #[.string ⟨#[101]⟩, .slice (some ⟨w.heap.size + 1 + 1 + 1 + 1 + 1 + 1, 0, none⟩) 6 6] 61)) (.cells #[.string ⟨#[102]⟩, .slice (some ⟨w.heap.size + 1, 0, none⟩) 1 1, .slice (some ⟨w.heap.size + 1 + 1 + 1, 0, none⟩) 1 1, .string ⟨#[109, 97, 105, 110]⟩, .slice none 0 0, .slice (some ⟨w.heap.size + 1 + 1 + 1 + 1 + 1 + 1 + 1, 0, none⟩) 1 1] 58);simp only [World.size_alloc] at h;exact h
theorem wkn16_c (w : World) : (Y3 w).heap[w.heap.size]? = some (.cells #[.slice (some ⟨w.heap.size + 1 + 1 + 1 + 1 + 1 + 1 + 1 + 1, 0, none⟩) 2 2] 24 (0, 0)) := by
 have h := World.alloc_heap_new w (.cells #[.slice (some ⟨w.heap.size + 1 + 1 + 1 + 1 + 1 + 1 + 1 + 1, 0, none⟩) 2 2] 24);exact Zb (Zb (Zb (Zb (Zb (Zb (Zb (Zb (h) _) _) _) _) _) _) _) _
theorem Znt (w : World) : ProgAt (Y3 w) (Y3 w).heap.size (.slice (some ⟨w.heap.size + 1 + 1 + 1 + 1 + 1 + 1 + 1 + 1, 0, none⟩) 2 2) kn16p := by
 have hs := Znu w;have h1 : StrsAt (Y3 w) (Y3 w).heap.size (.slice (some ⟨w.heap.size + 1, 0, none⟩) 1 1) kn16l1 := Kz rfl (by decide) (by omega) (Y1 ⟨(Za (wkn16_1 w)).1 0, by decide⟩ Vv);have h2 : CodeAt (Y3 w) (Y3 w).heap.size (.slice (some ⟨w.heap.size + 1 + 1, 0, none⟩) 1 1) kn16l2 := Kz rfl (by decide) (by omega) (Y1 ⟨_, _, ⟨SlAt.nil_ strR 1 _ _, by decide, by decide, SlAt.nil_ strR 1 _ _, by decide, by decide, by decide, by decide, by decide, by decide, by decide⟩, (Za (Q7 w)).1 0, (Za (Q7 w)).1 1, (Za (Q7 w)).1 2, (Za (Q7 w)).1 3, (Za (Q7 w)).1 4, (Za (Q7 w)).1 5, (Za (Q7 w)).1 6, (Za (Q7 w)).1 7⟩ Vv);have h3 : BlocksAt (Y3 w) (Y3 w).heap.size (.slice (some ⟨w.heap.size + 1 + 1 + 1, 0, none⟩) 1 1) kn16l3 := Kz rfl (by decide) (by omega) (Y1 ⟨_, ⟨h2, by decide⟩, (Za (Zow w)).1 0, (Za (Zow w)).1 1⟩ Vv);have h4 : StrsAt (Y3 w) (Y3 w).heap.size (.slice (some ⟨w.heap.size + 1 + 1 + 1 + 1, 0, none⟩) 1 1) kn16l4 := Kz rfl (by decide) (by omega) (Y1 ⟨(Za (wkn16_4 w)).1 0, by decide⟩ Vv);have h5 : StrsAt (Y3 w) (Y3 w).heap.size (.slice (some ⟨w.heap.size + 1 + 1 + 1 + 1 + 1, 0, none⟩) 1 1) kn16l5 := Kz rfl (by decide) (by omega) (Y1 ⟨(Za (wkn16_5 w)).1 0, by decide⟩ Vv);have h6 : CodeAt (Y3 w) (Y3 w).heap.size (.slice (some ⟨w.heap.size + 1 + 1 + 1 + 1 + 1 + 1, 0, none⟩) 6 6) kn16l6 := Kz rfl (by decide) (by omega) (Y1 ⟨_, _, ⟨SlAt.nil_ strR 1 _ _, by decide, by decide, SlAt.nil_ strR 1 _ _, by decide, by decide, by decide, by decide, by decide, by decide, by decide⟩, (Za (Zy w)).1 0, (Za (Zy w)).1 1, (Za (Zy w)).1 2, (Za (Zy w)).1 3, (Za (Zy w)).1 4, (Za (Zy w)).1 5, (Za (Zy w)).1 6, (Za (Zy w)).1 7⟩ (Y1 ⟨_, _, ⟨SlAt.nil_ strR 1 _ _, by decide, by decide, SlAt.nil_ strR 1 _ _, by decide, by decide, by decide, by decide, by decide, by decide, by decide⟩, (Za (Zy w)).1 8, (Za (Zy w)).1 9, (Za (Zy w)).1 10, (Za (Zy w)).1 11, (Za (Zy w)).1 12, (Za (Zy w)).1 13, (Za (Zy w)).1 14, (Za (Zy w)).1 15⟩ (Y1 ⟨_, _, ⟨SlAt.nil_ strR 1 _ _, by decide, by decide, SlAt.nil_ strR 1 _ _, by decide, by decide, by decide, by decide, by decide, by decide, by decide⟩, (Za (Zy w)).1 16, (Za (Zy w)).1 17, (Za (Zy w)).1 18, (Za (Zy w)).1 19, (Za (Zy w)).1 20, (Za (Zy w)).1 21, (Za (Zy w)).1 22, (Za (Zy w)).1 23⟩ (Y1 ⟨_, _, ⟨h4, by decide, by decide, SlAt.nil_ strR 1 _ _, by decide, by decide, by decide, by decide, by decide, by decide, by decide⟩, (Za (Zy w)).1 24, (Za (Zy w)).1 25, (Za (Zy w)).1 26, (Za (Zy w)).1 27, (Za (Zy w)).1 28, (Za (Zy w)).1 29, (Za (Zy w)).1 30, (Za (Zy w)).1 31⟩ (Y1 ⟨_, _, ⟨h5, by decide, by decide, SlAt.nil_ strR 1 _ _, by decide, by decide, by decide, by decide, by decide, by decide, by decide⟩, (Za (Zy w)).1 32, (Za (Zy w)).1 33, (Za (Zy w)).1 34, (Za (Zy w)).1 35, (Za (Zy w)).1 36, (Za (Zy w)).1 37, (Za (Zy w)).1 38, (Za (Zy w)).1 39⟩ (Y1 ⟨_, _, ⟨SlAt.nil_ strR 1 _ _, by decide, by decide, SlAt.nil_ strR 1 _ _, by decide, by decide, by decide, by decide, by decide, by decide, by decide⟩, (Za (Zy w)).1 40, (Za (Zy w)).1 41, (Za (Zy w)).1 42, (Za (Zy w)).1 43, (Za (Zy w)).1 44, (Za (Zy w)).1 45, (Za (Zy w)).1 46, (Za (Zy w)).1 47⟩ Vv))))))
 have h7 : BlocksAt (Y3 w) (Y3 w).heap.size (.slice (some ⟨w.heap.size + 1 + 1 + 1 + 1 + 1 + 1 + 1, 0, none⟩) 1 1) kn16l7 := Kz rfl (by decide) (by omega) (Y1 ⟨_, ⟨h6, by decide⟩, (Za (Zox w)).1 0, (Za (Zox w)).1 1⟩ Vv);have h8 : ProgAt (Y3 w) (Y3 w).heap.size (.slice (some ⟨w.heap.size + 1 + 1 + 1 + 1 + 1 + 1 + 1 + 1, 0, none⟩) 2 2) kn16l8 := Kz rfl (by decide) (by omega) (Y1 ⟨_, _, ⟨h1, h3, by decide⟩, (Za (Jv w)).1 0, (Za (Jv w)).1 1, (Za (Jv w)).1 2⟩ (Y1 ⟨_, _, ⟨SlAt.nil_ strR 1 _ _, h7, by decide⟩, (Za (Jv w)).1 3, (Za (Jv w)).1 4, (Za (Jv w)).1 5⟩ Vv));exact h8
theorem Zrz (w : World) : Calls Tryz.prog 70 #[] w fun e w' => e = .returned (.agg #[.slice (some ⟨w.heap.size + 1 + 1 + 1 + 1 + 1 + 1 + 1 + 1, 0, none⟩) 2 2]) ∧ w' = Y3 w := by
 have hw : Y3 w = ((((((((w.alloc (.cells #[.slice (some ⟨w.heap.size + 1 + 1 + 1 + 1 + 1 + 1 + 1 + 1, 0, none⟩) 2 2] 24)).alloc (.cells #[.string ⟨#[97]⟩] 9)).alloc (.cells #[.int .u8 14, .string ⟨#[]⟩, .string ⟨#[97]⟩, .string ⟨#[]⟩, .int .i64 0, .string ⟨#[]⟩, .slice none 0 0, .slice none 0 0] 38)).alloc (.cells #[.string ⟨#[101]⟩, .slice (some ⟨w.heap.size + 1 + 1, 0, none⟩) 1 1] 61)).alloc (.cells #[.string ⟨#[112]⟩] 9)).alloc (.cells #[.string ⟨#[113]⟩] 9)).alloc (.cells #[.int .u8 1, .string ⟨#[112]⟩, .string ⟨#[]⟩, .string ⟨#[]⟩, .int .i64 2, .string ⟨#[]⟩, .slice none 0 0, .slice none 0 0, .int .u8 7, .string ⟨#[113]⟩, .string ⟨#[112]⟩, .string ⟨#[]⟩, .int .i64 1, .string ⟨#[]⟩, .slice none 0 0, .slice none 0 0, .int .u8 9, .string ⟨#[]⟩, .string ⟨#[113]⟩, .string ⟨#[112]⟩, .int .i64 0, .string ⟨#[]⟩, .slice none 0 0, .slice none 0 0, .int .u8 10, .string ⟨#[120]⟩, .string ⟨#[]⟩, .string ⟨#[]⟩, .int .i64 0, .string ⟨#[102]⟩, .slice (some ⟨w.heap.size + 1 + 1 + 1 + 1, 0, none⟩) 1 1, .slice none 0 0, .int .u8 11, .string ⟨#[121]⟩, .string ⟨#[120]⟩, .string ⟨#[]⟩, .int .i64 0, .string ⟨#[]⟩, .slice (some ⟨w.heap.size + 1 + 1 + 1 + 1 + 1, 0, none⟩) 1 1, .slice none 0 0, .int .u8 14, .string ⟨#[]⟩, .string ⟨#[]⟩, .string ⟨#[]⟩, .int .i64 0, .string ⟨#[]⟩, .slice none 0 0, .slice none 0 0] 38)).alloc (.cells #[.string ⟨#[101]⟩, .slice (some ⟨w.heap.size + 1 + 1 + 1 + 1 + 1 + 1, 0, none⟩) 6 6] 61)).alloc (.cells #[.string ⟨#[102]⟩, .slice (some ⟨w.heap.size + 1, 0, none⟩) 1 1, .slice (some ⟨w.heap.size + 1 + 1 + 1, 0, none⟩) 1 1, .string ⟨#[109, 97, 105, 110]⟩, .slice none 0 0, .slice (some ⟨w.heap.size + 1 + 1 + 1 + 1 + 1 + 1 + 1, 0, none⟩) 1 1] 58) := rfl;have hc := (Za (wkn16_c w)).1 0;go_enter Tryz.func70, Tryz.ntmps70;go_wp2;rw [← hw];clear hw;refine bodyPost_ret (v := .agg #[.slice (some ⟨w.heap.size + 1 + 1 + 1 + 1 + 1 + 1 + 1 + 1, 0, none⟩) 2 2]) (by simp [results, Tryz.results70, go_sem, hc]) rfl ⟨rfl, rfl⟩
end Go.Proofs.YtiheiaaifdjpeaaGreat
namespace Go.Proofs.YtiheiaaifdjpeaaGreat
open Lib(hid)
open Go.RowKit Go.Shelf
def relR : Rdr GRel := fun w _ b o x => w.cell? ⟨b, o, none⟩ = some (.int .u8 x.kind) ∧ w.cell? ⟨b, o + 1, none⟩ = some (.int .i64 x.a) ∧ w.cell? ⟨b, o + 2, none⟩ = some (.int .i64 x.b) ∧ w.cell? ⟨b, o + 3, none⟩ = some (.int .i64 x.k)
def Zoe : Rdr GDial := fun w _ b o x => w.cell? ⟨b, o, none⟩ = some (.int .i64 x.at_.1) ∧ w.cell? ⟨b, o + 1, none⟩ = some (.int .i64 x.at_.2.1) ∧ w.cell? ⟨b, o + 2, none⟩ = some (.int .i64 x.at_.2.2) ∧ w.cell? ⟨b, o + 3, none⟩ = some (.slice x.A x.args.length x.c) ∧ w.cell? ⟨b, o + 4, none⟩ = some (.int .i64 x.dst)
theorem Ztc {α : Type} {Rd : Rdr α} {f : α → List Value} {sz : Nat} {t : TypeId} {w : World} {base : Nat} {v : Value} {l : List α} (ho : w.ownsRow base t sz v l.length (l.flatMap f)) (hf : ∀ x, (f x).length = sz)
  (hr : ∀ (b k : Nat) (x : α), (∀ j (u : Value), j < sz → (f x)[j]? = some u → w.cell? ⟨b, k * sz + j, none⟩ = some u) → Rd w w.heap.size b (k * sz) x) : SlAt Rd sz w w.heap.size v l := by
 obtain ⟨A', c', rfl, _, _, h0, h1⟩ := Zr ho;refine SlAt.of_ownN ho rfl (fun g e => (ho.lt g e).2) fun g k x e hx => ?_
 cases A' with
 | none => simp [Value.ownBlock] at e
 | some a =>
  obtain ⟨ha, -, -⟩ := h1 a rfl;rw [ha] at ho e;simp only [Value.ownBlock, Option.map_some, Option.some.injEq] at e;obtain ⟨_, _, _, _, h6⟩ := Y2 ho;rw [← e];exact hr a.block k x (fun j u hj hu => h6 _ _ ((V8 (f := f) (sz := sz) (fun z _ => hf z) hx hj).trans hu))
theorem Zle {w : World} {base : Nat} {v : Value} {R : List GRel} (ho : w.ownsRow base 84 4 v R.length (R.flatMap Vr)) : SlAt relR 4 w w.heap.size v R :=
 Ztc ho (fun _ => rfl) (fun b k x h => ⟨h 0 _ (by omega) rfl, h 1 _ (by omega) rfl, h 2 _ (by omega) rfl, h 3 _ (by omega) rfl⟩)
theorem Zhg {w : World} {base : Nat} {v : Value} {D : List GDial} (ho : w.ownsRow base 82 5 v D.length (D.flatMap Vq)) : SlAt Zoe 5 w w.heap.size v D :=
 Ztc ho (fun _ => rfl) (fun b k x h => ⟨h 0 _ (by omega) rfl, h 1 _ (by omega) rfl, h 2 _ (by omega) rfl, h 3 _ (by omega) rfl, h 4 _ (by omega) rfl⟩)
theorem rels_eq (l : List GRel) (v1 v2 : Value) (B : Nat) (w : World) (h1 : SlAt relR 4 w B v1 l) (h2 : SlAt relR 4 w B v2 l) (hB : B ≤ w.heap.size) :
  Calls Tryz.prog 51 #[v1, v2] w fun e w' => e = .returned (.bool true) ∧ w.grownBy w' none := by
 obtain ⟨A1, c1, rfl, m1, m2, m3, h1⟩ := h1.open_;obtain ⟨A2, c2, rfl, n1, n2, n3, h2⟩ := h2.open_;have H1 := hid h1;have H2 := hid h2;clear h1 h2;go_enter Tryz.func51, Tryz.ntmps51;go_wp2;go_loopw [5] (fun s5 wr => ∃ k : Nat, k ≤ l.length ∧ s5 = .int .i64 k ∧ Hid (w.grownBy wr none)) (fun s5 _ => l.length - (intOf s5).toNat)
 case atStart => exact ⟨0, Nat.zero_le _, rfl, World.grownBy.refl _ _⟩
 case round =>
  obtain ⟨k, hk, rfl, hg⟩ := hrel
  by_cases hkl : k < l.length
  ·obtain ⟨x, b, off, hx, rfl, hb, x0, x1, x2, x3⟩ := H1.out.at_ hkl;obtain ⟨y, b2, off2, hy, rfl, hb2, y0, y1, y2, y3⟩ := H2.out.at_ hkl;obtain rfl : x = y := by rw [hx] at hy; injection hy
   have hl := Zk hg.out;have x0' := cur hl (by omega : b < w.heap.size) x0;have x1' := cur hl (by omega : b < w.heap.size) x1;have x2' := cur hl (by omega : b < w.heap.size) x2;have x3' := cur hl (by omega : b < w.heap.size) x3;have y0' := cur hl (by omega : b2 < w.heap.size) y0;have y1' := cur hl (by omega : b2 < w.heap.size) y1;have y2' := cur hl (by omega : b2 < w.heap.size) y2;have y3' := cur hl (by omega : b2 < w.heap.size) y3;clear hx hy x0 x1 x2 x3 y0 y1 y2 y3 hl;go_upto_region 6 with (fail)
   go_quiet (fail);go_wp2_with fail;go_roundw
   case rel => exact ⟨k + 1, by omega, by go_num, Zi hg.out _⟩
   case measure => simp [intOf]; omega
  ·obtain rfl : k = l.length := by omega
   go_wp2;go_ret;exact ⟨rfl, hg.out⟩
theorem Zrr (D1 D2 : List GDial) (v1 v2 : Value) (B : Nat) (w : World) (h1 : SlAt Zoe 5 w B v1 D1) (h2 : SlAt Zoe 5 w B v2 D2) (hB : B ≤ w.heap.size) (he : D1.map dkey = D2.map dkey) (r1 : ∀ d ∈ D1, SlAt intR 1 w B d.row d.args) (r2 : ∀ d ∈ D2, SlAt intR 1 w B d.row d.args) :
  Calls Tryz.prog 52 #[v1, v2] w fun e w' => e = .returned (.bool true) ∧ w.grownBy w' none := by
 obtain ⟨A1, c1, rfl, m1, m2, m3, h1⟩ := h1.open_;obtain ⟨A2, c2, rfl, n1, n2, n3, h2⟩ := h2.open_;have hlen : D1.length = D2.length := by have := congrArg List.length he; rwa [List.length_map, List.length_map] at this
 have hli : (D1.length : Int) = (D2.length : Int) := by omega
 have H1 := hid h1;have H2 := hid h2;have He := hid he;have Hr := hid (And.intro r1 r2);have Hlen := hid hlen;clear h1 h2 he r1 r2 hlen;go_enter Tryz.func52, Tryz.ntmps52;go_wp2;clear hli;go_loopw [5] (fun s5 wr => ∃ k : Nat, k ≤ D1.length ∧ s5 = .int .i64 k ∧ Hid (w.grownBy wr none)) (fun s5 _ => D1.length - (intOf s5).toNat)
 case atStart => exact ⟨0, Nat.zero_le _, rfl, World.grownBy.refl _ _⟩
 case round =>
  obtain ⟨k, hk, rfl, hg⟩ := hrel
  by_cases hkl : k < D1.length
  ·have hkl2 : k < D2.length := by have := Hlen.out; omega
   obtain ⟨x, b, off, hx, rfl, hb, x0, x1, x2, x3, x4⟩ := H1.out.at_ hkl;obtain ⟨y, b2, off2, hy, rfl, hb2, y0, y1, y2, y3, y4⟩ := H2.out.at_ hkl2;have hxy : dkey x = dkey y := by
    have := congrArg (fun l => l[k]?) He.out;simpa [hx, hy] using this
   have hrx := Hr.out.1 x (List.mem_of_getElem? hx);have hry := Hr.out.2 y (List.mem_of_getElem? hy);obtain ⟨xp, xA, xc, xs, xd⟩ := x;obtain ⟨yp, yA, yc, ys, yd⟩ := y;simp only [dkey, Prod.mk.injEq] at hxy;obtain ⟨rfl, rfl, rfl⟩ := hxy;obtain ⟨p1, p2, p3⟩ := xp;simp only [GDial.row] at hrx hry;simp only at x0 x1 x2 x3 x4 y0 y1 y2 y3 y4
   have Hxy := hid (show ∀ W', w.grownBy W' none → (W'.cell? ⟨b, off + k * 5, none⟩ = some (.int .i64 p1) ∧ W'.cell? ⟨b, off + k * 5 + 1, none⟩ = some (.int .i64 p2) ∧ W'.cell? ⟨b, off + k * 5 + 2, none⟩ = some (.int .i64 p3) ∧ W'.cell? ⟨b, off + k * 5 + 3, none⟩ = some (.slice xA xs.length xc) ∧ W'.cell? ⟨b, off + k * 5 + 4, none⟩ = some (.int .i64 xd)) ∧ (W'.cell? ⟨b2, off2 + k * 5, none⟩ = some (.int .i64 p1) ∧ W'.cell? ⟨b2, off2 + k * 5 + 1, none⟩ = some (.int .i64 p2) ∧ W'.cell? ⟨b2, off2 + k * 5 + 2, none⟩ = some (.int .i64 p3) ∧ W'.cell? ⟨b2, off2 + k * 5 + 3, none⟩ = some (.slice yA xs.length yc) ∧ W'.cell? ⟨b2, off2 + k * 5 + 4, none⟩ = some (.int .i64 xd)) from fun W' hg' => by
                        have hl := Zk hg'
                        exact ⟨⟨cur hl (by omega) x0, cur hl (by omega) x1, cur hl (by omega) x2, cur hl (by omega) x3, cur hl (by omega) x4⟩, ⟨cur hl (by omega) y0, cur hl (by omega) y1, cur hl (by omega) y2, cur hl (by omega) y3, cur hl (by omega) y4⟩⟩)
   obtain ⟨⟨x0', x1', x2', x3', x4'⟩, ⟨y0', y1', y2', y3', y4'⟩⟩ := Hxy.out wr hg.out;have hxl : xs.length ≤ 9223372036854775807 := by obtain ⟨_, _, _, h, _⟩ := hrx.open_; exact h
   have Hrx := hid hrx;have Hry := hid hry;clear hx hy x0 x1 x2 x3 x4 y0 y1 y2 y3 y4 hrx hry;go_upto_region 6 with (fail)
   go_quiet (fail);obtain ⟨W6, hW6⟩ : ∃ W6, W6 = wr.drewN nq := ⟨_, rfl⟩
   have hg6 : w.grownBy W6 none := by rw [hW6]; exact Zi hg.out _
   rw [← hW6];clear hW6 x0' x1' x2' x4' y0' y1' y2' y4' x3' y3';go_wp2_with fail;go_loopw [6] (fun s6 wi => ∃ j : Nat, j ≤ xs.length ∧ s6 = .int .i64 j ∧ Hid (w.grownBy wi none)) (fun s6 _ => xs.length - (intOf s6).toNat)
   case atStart => exact ⟨0, Nat.zero_le _, rfl, hg6⟩
   case round =>
    obtain ⟨j, hj, rfl, hgj⟩ := hrel;obtain ⟨⟨-, -, -, x3', -⟩, ⟨-, -, -, y3', -⟩⟩ := Hxy.out wr hgj.out
    by_cases hjl : j < xs.length
    ·obtain ⟨a, g, o, ha, rfl, hgl, a0, -⟩ := Hrx.out.at_ hjl;obtain ⟨a', g', o', ha', rfl, hgl', a0', -⟩ := Hry.out.at_ hjl;obtain rfl : a = a' := by rw [ha] at ha'; injection ha'
     have hl := Zk hgj.out;rw [Nat.mul_one] at a0 a0';have z0 := cur hl (by omega : g < w.heap.size) a0;have z0' := cur hl (by omega : g' < w.heap.size) a0';clear ha ha' a0 a0' hl;go_upto_region 11 with (fail)
     go_quiet (fail);go_wp2_with fail;go_roundw
     case rel => exact ⟨j + 1, by omega, by go_num, Zi hgj.out _⟩
     case measure => simp [intOf]; omega
    ·obtain rfl : j = xs.length := by omega
     go_wp2;go_roundw
     case rel => exact ⟨k + 1, by omega, by go_num, hgj.out⟩
     case measure => simp [intOf]; omega
  ·obtain rfl : k = D1.length := by omega
   go_wp2;go_ret;exact ⟨rfl, hg.out⟩
end Go.Proofs.YtiheiaaifdjpeaaGreat
namespace Go.Proofs.YtiheiaaifdjpeaaGreat
open Lib(hid)
open Go.RowKit Go.Shelf
instance : DecidableEq GRel := fun a b => decidable_of_iff (a.kind = b.kind ∧ a.a = b.a ∧ a.b = b.b ∧ a.k = b.k) (by cases a; cases b; simp)
def kn16R : List GRel := [⟨1, 1, 0, 0⟩, ⟨5, 2, 1, 1⟩, ⟨4, 1, 2, 0⟩, ⟨2, 0, 1, 0⟩, ⟨2, 3, 0, 0⟩, ⟨6, 3, 0, 0⟩]
theorem Zsa : Y9 kn16p = (0, (0, 0, 0)) := Zjh (by decide +kernel) (by decide +kernel) (by decide +kernel) (by decide +kernel)
theorem Zpt : Yq kn16p (pts kn16p) = kn16R := by decide +kernel
theorem Zmp : Z7 kn16p (pts kn16p) = [((1, 0, 4), [2], 4)] := by decide +kernel
theorem Ztf {p : GProg} (h : (Y9 p).1 = 0) : SOk p := Ztl (by
                                                                       by_cases h0 : (Z9 p).1 = 0
                                                                       ·exact h0
                                                                       ·exact absurd (by rw [← U0 h0]; exact h) h0) h
theorem Zsc {W : World} {g : Nat} (R : List GRel) (hb : W.heap[g]? = some (.cells (R.flatMap Vr).toArray 84 (0, 0))) (hn : R.length ≤ 65536) : SlAt relR 4 W W.heap.size (.slice (some ⟨g, 0, none⟩) R.length R.length) R := by
 refine ⟨_, _, rfl, Nat.le_refl _, by unfold maxLen; omega, fun k x hx => ⟨g, 0, rfl, Ze hb, ?_⟩⟩;have key : ∀ j (u : Value), j < 4 → (Vr x)[j]? = some u → W.cell? ⟨g, 0 + k * 4 + j, none⟩ = some u := fun j u hj hu => by
  rw [(Za hb).1, List.getElem?_toArray, Nat.zero_add];exact (V8 (f := Vr) (sz := 4) (fun z _ => rfl) hx hj).trans hu
 exact ⟨key 0 _ (by omega) rfl, key 1 _ (by omega) rfl, key 2 _ (by omega) rfl, key 3 _ (by omega) rfl⟩
theorem Zpu {W : World} {g : Nat} (D : List GDial) (hb : W.heap[g]? = some (.cells (D.flatMap Vq).toArray 82 (0, 0))) (hn : D.length ≤ 65536) : SlAt Zoe 5 W W.heap.size (.slice (some ⟨g, 0, none⟩) D.length D.length) D := by
 refine ⟨_, _, rfl, Nat.le_refl _, by unfold maxLen; omega, fun k x hx => ⟨g, 0, rfl, Ze hb, ?_⟩⟩;have key : ∀ j (u : Value), j < 5 → (Vq x)[j]? = some u → W.cell? ⟨g, 0 + k * 5 + j, none⟩ = some u := fun j u hj hu => by
  rw [(Za hb).1, List.getElem?_toArray, Nat.zero_add];exact (V8 (f := Vq) (sz := 5) (fun z _ => rfl) hx hj).trans hu
 exact ⟨key 0 _ (by omega) rfl, key 1 _ (by omega) rfl, key 2 _ (by omega) rfl, key 3 _ (by omega) rfl, key 4 _ (by omega) rfl⟩
theorem Zmo : (kn16R.flatMap Vr).toArray = #[.int .u8 1, .int .i64 1, .int .i64 0, .int .i64 0, .int .u8 5, .int .i64 2, .int .i64 1, .int .i64 1, .int .u8 4, .int .i64 1, .int .i64 2, .int .i64 0, .int .u8 2, .int .i64 0, .int .i64 1, .int .i64 0, .int .u8 2, .int .i64 3, .int .i64 0, .int .i64 0, .int .u8 6, .int .i64 3, .int .i64 0, .int .i64 0] := rfl
theorem rels16 {w2 W : World} {base g : Nat} {vL : Value} (hoL : w2.ownsRow base 84 4 vL kn16R.length (kn16R.flatMap Vr)) (hg : w2.grownBy W none)
  (hb : W.heap[g]? = some (.cells #[.int .u8 1, .int .i64 1, .int .i64 0, .int .i64 0, .int .u8 5, .int .i64 2, .int .i64 1, .int .i64 1, .int .u8 4, .int .i64 1, .int .i64 2, .int .i64 0, .int .u8 2, .int .i64 0, .int .i64 1, .int .i64 0, .int .u8 2, .int .i64 3, .int .i64 0, .int .i64 0, .int .u8 6, .int .i64 3, .int .i64 0, .int .i64 0] 84 (0, 0))) :
  Calls Tryz.prog 51 #[vL, .slice (some ⟨g, 0, none⟩) 6 6] W fun e w' => e = .returned (.bool true) ∧ W.grownBy w' none := by
 rw [← Zmo] at hb;exact rels_eq kn16R vL (.slice (some ⟨g, 0, none⟩) 6 6) W.heap.size W (Zle ((Chg.grown (Q := fun _ => False) hg (fun r e => by cases e)).owns hoL (fun _ _ e => e))) (Zsc kn16R hb (by decide)) (Nat.le_refl _)
theorem dials16 {w2 W : World} {base g1 g2 : Nat} {vD : Value} {D : List GDial} (hoD : w2.ownsRow base 82 5 vD D.length (D.flatMap Vq)) (hoA : ∀ d ∈ D, w2.ownsRow base 3 1 d.row d.args.length (d.args.map Jd)) (hD : D.map dkey = [((1, 0, 4), [2], 4)]) (hg : w2.grownBy W none)
  (hb1 : W.heap[g1]? = some (.cells #[.int .i64 2] 3 (0, 0))) (hb2 : W.heap[g2]? = some (.cells #[.int .i64 1, .int .i64 0, .int .i64 4, .slice (some ⟨g1, 0, none⟩) 1 1, .int .i64 4] 82 (0, 0))) :
  Calls Tryz.prog 52 #[vD, .slice (some ⟨g2, 0, none⟩) 1 1] W fun e w' => e = .returned (.bool true) ∧ W.grownBy w' none := by
 have hc : Chg (fun _ => False) w2 W := Chg.grown hg (fun r e => by cases e);refine Zrr D [⟨(1, 0, 4), some ⟨g1, 0, none⟩, 1, [2], 4⟩] vD (.slice (some ⟨g2, 0, none⟩) 1 1) W.heap.size W (Zhg (hc.owns hoD (fun _ _ e => e))) (Zpu [⟨(1, 0, 4), some ⟨g1, 0, none⟩, 1, [2], 4⟩] hb2 (by simp)) (Nat.le_refl _) hD (fun d hd => Zor (hc.owns (hoA d hd) (fun _ _ e => e)) (fun x hx => ?_)) (fun d hd => ?_)
 ·have : dkey d ∈ D.map dkey := List.mem_map.2 ⟨d, hd, rfl⟩;rw [hD] at this;simp only [List.mem_singleton, dkey, Prod.mk.injEq] at this;rw [this.2.1] at hx;simp only [List.mem_singleton] at hx;subst hx;decide
 ·simp only [List.mem_singleton] at hd;subst hd;exact Kz rfl (by simp) (Ze hb1) (Y1 ⟨(Za hb1).1 0, by decide, by decide⟩ Vv)
theorem Jp (w : World) : Calls Tryz.prog 48 #[] w fun e w' => e = .returned (.bool true) ∧ w.grownBy w' none := by
 have hz : (Y9 kn16p).1 = 0 := by rw [Zsa]
 have hnew := Zom kn16p _ (Y3 w) (Y3 w).heap.size (Nat.le_refl _) (Znt w) (Zoc (Zsi hz)) hz;have Hs := hid (Ztf hz);have Hg0 := hid (Zlr w);clear hz;obtain ⟨W0, hW0⟩ : ∃ W0, W0 = Y3 w := ⟨_, rfl⟩
 have hkn := Zrz w;rw [← hW0] at hnew Hg0 hkn;clear hW0;go_enter Tryz.func48, Tryz.ntmps48;go_upto_region 2 with (first | (go_at_call 70; refine hkn.mono ?_; rintro e w0 ⟨rfl, rfl⟩) | (go_at_call 13; refine hnew.mono ?_; rintro e w1 ⟨m, rfl, hM, hg1⟩))
 have hro := Zfv hM Hs.out;rw [Zpt] at hro;have Hg1 := hid (Zc Hg0.out hg1);clear hnew hkn hM hg1;go_upto_region 3 with (go_at_call 49; refine hro.mono ?_; rintro e w2 ⟨vL, vD, D, rfl, hoL, hoD, hoA, hD, hg2⟩)
 rw [Zmp] at hD;have hR := hid (fun (W : World) (hg : w2.grownBy W none) (g : Nat) => rels16 (g := g) hoL hg);have hDl := hid (fun (W : World) (hg : w2.grownBy W none) (g1 g2 : Nat) => dials16 (g1 := g1) (g2 := g2) hoD hoA hD hg);obtain ⟨AL, cL, rfl, -, -, -, -⟩ := Zr hoL;obtain ⟨AD, cD, rfl, -, -, -, -⟩ := Zr hoD;have HG := hid (Zc Hg1.out hg2);clear hoL hoD hoA hD hro hg2;have hq := hR.out (w2.alloc (.cells #[.int .u8 1, .int .i64 1, .int .i64 0, .int .i64 0, .int .u8 5, .int .i64 2, .int .i64 1, .int .i64 1, .int .u8 4, .int .i64 1, .int .i64 2, .int .i64 0, .int .u8 2, .int .i64 0, .int .i64 1, .int .i64 0, .int .u8 2, .int .i64 3, .int .i64 0, .int .i64 0, .int .u8 6, .int .i64 3, .int .i64 0, .int .i64 0] 84)) (World.grownBy_alloc _ _ _) w2.heap.size (World.alloc_heap_new w2 _);have hgq : w2.grownBy (w2.alloc (.cells #[.int .u8 1, .int .i64 1, .int .i64 0, .int .i64 0, .int .u8 5, .int .i64 2, .int .i64 1, .int .i64 1, .int .u8 4, .int .i64 1, .int .i64 2, .int .i64 0, .int .u8 2, .int .i64 0, .int .i64 1, .int .i64 0, .int .u8 2, .int .i64 3, .int .i64 0, .int .i64 0, .int .u8 6, .int .i64 3, .int .i64 0, .int .i64 0] 84)) none := World.grownBy_alloc _ _ _;obtain ⟨W3, hW3⟩ : ∃ W3, W3 = w2.alloc (.cells #[.int .u8 1, .int .i64 1, .int .i64 0, .int .i64 0, .int .u8 5, .int .i64 2, .int .i64 1, .int .i64 1, .int .u8 4, .int .i64 1, .int .i64 2, .int .i64 0, .int .u8 2, .int .i64 0, .int .i64 1, .int .i64 0, .int .u8 2, .int .i64 3, .int .i64 0, .int .i64 0, .int .u8 6, .int .i64 3, .int .i64 0, .int .i64 0] 84) := ⟨_, rfl⟩
 rw [← hW3] at hq hgq
 repeat go_step
 rw [← hW3];clear hW3;refine hq.mono ?_;rintro e w4 ⟨rfl, hg4⟩;have hg24 := Zc hgq hg4
 have hq2 := hDl.out ((w4.alloc (.cells #[.int .i64 2] 3)).alloc (.cells #[.int .i64 1, .int .i64 0, .int .i64 4, .slice (some ⟨w4.heap.size, 0, none⟩) 1 1, .int .i64 4] 82)) (Zd (Zd hg24 _) _) w4.heap.size (w4.heap.size + 1) (Zb (World.alloc_heap_new w4 _) _) (by
                                                                                                                                                                                                                                                                                                have := World.alloc_heap_new (w4.alloc (.cells #[.int .i64 2] 3)) (.cells #[.int .i64 1, .int .i64 0, .int .i64 4, .slice (some ⟨w4.heap.size, 0, none⟩) 1 1, .int .i64 4] 82)
                                                                                                                                                                                                                                                                                                rwa [World.size_alloc] at this)
 clear hq hR hDl;dsimp only
 repeat go_step
 refine hq2.mono ?_;rintro e w5 ⟨rfl, hg5⟩;have hge := Zc HG.out (Zc (Zd (Zd hg24 (.cells #[.int .i64 2] 3)) (.cells #[.int .i64 1, .int .i64 0, .int .i64 4, .slice (some ⟨w4.heap.size, 0, none⟩) 1 1, .int .i64 4] 82)) hg5);clear hq2 hg5 hg24 hg4 hgq;dsimp only;go_wp2;go_ret;exact ⟨rfl, hge⟩
end Go.Proofs.YtiheiaaifdjpeaaGreat
namespace Go.Proofs.YtiheiaaifdjpeaaGreat
open Lib(hid)
open Go.RowKit Go.Shelf
theorem Zkj (p : GProg) (vp : Value) (w : World) (B : Nat) (hB : B ≤ w.heap.size) (h : ProgAt w B vp p) : Calls Tryz.prog 47 #[.agg #[vp]] w fun e w' => ∃ b, e = .returned (.bool b) ∧ w.grownBy w' none := by
 obtain ⟨A, c, rfl, m1, m2, m3, hA⟩ := h.open_;obtain ⟨W, hW⟩ : ∃ W : World, W = w.alloc (.cells #[.slice A p.length c] 24) := ⟨_, rfl⟩
 have hgW : w.grownBy W none := by rw [hW]; exact World.grownBy_alloc _ _ _
 have hb : W.heap[w.heap.size]? = some (.cells #[.slice A p.length c] 24 (0, 0)) := by rw [hW]; exact World.alloc_heap_new _ _
 have HS := hid (show ∀ W', W.grownBy W' none → W'.cell? ⟨w.heap.size, 0, none⟩ = some (.slice A p.length c) from fun W' hg => (World.cell?_of_block (hg.block w.heap.size (Ze hb) (by simp))).trans ((Za hb).1 0));have HgW := hid hgW;have HA := hid hA;have hc := HS.out W (World.grownBy.refl _ _);clear hb hgW hA h;go_enter Tryz.func47, Tryz.ntmps47;go_upto_region 1 with (fail)
 rw [← hW];clear hW
 by_cases h6 : (6 : Int) < p.length
 ·go_wp2;go_ret;exact ⟨_, rfl, HgW.out⟩
 ·go_wp2;clear hc;go_loopw [3, 4] (fun s3 s4 wr => ∃ (z : Int) (i : Nat), i ≤ p.length ∧ s3 = .int .i64 z ∧ s4 = .int .i64 i ∧ Hid (W.grownBy wr none)) (fun _ s4 _ => p.length - (intOf s4).toNat)
  case atStart => exact ⟨0, 0, Nat.zero_le _, rfl, rfl, World.grownBy.refl _ _⟩
  case round =>
   obtain ⟨z, i, hi, rfl, rfl, hg⟩ := hrel;have hc := HS.out wr hg.out
   by_cases hil : i < p.length
   ·obtain ⟨x, b, off, hx, rfl, hbB, hr⟩ := HA.out.at_ hil;obtain ⟨A1, d1, A2, d2, hf, n1, n2, e0, e1, e2⟩ := Yh hr;have hbw : b < w.heap.size := by omega
    have hlow := Zk (Zc HgW.out hg.out)
    have HF := hid (show ∀ W', wr.grownBy W' none → W'.cell? ⟨w.heap.size, 0, none⟩ = some (.slice (some ⟨b, off, none⟩) p.length c) ∧ W'.cell? ⟨b, off + i * 3 + 1, none⟩ = some (.slice A1 x.params.length d1) ∧ W'.cell? ⟨b, off + i * 3 + 2, none⟩ = some (.slice A2 x.blocks.length d2) from fun W' hg' => by
                        have hb' := Zk (Zc HgW.out (Zc hg.out hg'))
                        exact ⟨HS.out W' (Zc hg.out hg'), cur hb' hbw e1, cur hb' hbw e2⟩)
    obtain ⟨k0, k1, k2⟩ := HF.out wr (World.grownBy.refl _ _);have HBl := hid hf.blocks;have Hx := hid hx;clear hx hr hf e0 e1 e2 hlow hc
    by_cases hbl : (20 : Int) < x.blocks.length
    ·go_wp2;go_ret
     first | exact ⟨_, rfl, Zc HgW.out hg.out⟩ | exact ⟨.inl rfl, Zc HgW.out hg.out⟩ | exact ⟨.inr rfl, Zc HgW.out hg.out⟩
    ·by_cases hpl : (20 : Int) < x.params.length
     ·go_wp2;go_ret
      first | exact ⟨_, rfl, Zc HgW.out hg.out⟩ | exact ⟨.inl rfl, Zc HgW.out hg.out⟩ | exact ⟨.inr rfl, Zc HgW.out hg.out⟩
     ·go_wp2;clear k0 k1 k2;go_loopw [3, 5] (fun s3 s5 wi => ∃ (z : Int) (k : Nat), k ≤ x.blocks.length ∧ s3 = .int .i64 z ∧ s5 = .int .i64 k ∧ Hid (wr.grownBy wi none)) (fun _ s5 _ => x.blocks.length - (intOf s5).toNat)
      case atStart => exact ⟨z, 0, Nat.zero_le _, rfl, rfl, World.grownBy.refl _ _⟩
      case round =>
       obtain ⟨z2, k, hk, rfl, rfl, hg2⟩ := hrel;obtain ⟨k0, k1, k2⟩ := HF.out wr hg2.out
       by_cases hkl : k < x.blocks.length
       ·obtain ⟨y, b4, off4, hy, rfl, hb4, hby⟩ := HBl.out.at_ hkl;obtain ⟨vc, hyb, y0, y1⟩ := hby;obtain ⟨A5, d5, rfl, o1, o2, o3, -⟩ := hyb.code.open_;have y1' := cur (Zk (Zc HgW.out (Zc hg.out hg2.out))) (show b4 < w.heap.size by omega) y1;clear hy y0 y1 hyb;go_wp2;go_roundw
        case rel => exact ⟨_, k + 1, by omega, rfl, by go_num, hg2.out⟩
        case measure => simp [intOf]; omega
       ·obtain rfl : k = x.blocks.length := by omega
        go_wp2;go_roundw
        case rel => exact ⟨_, i + 1, by omega, rfl, by go_num, Zc hg.out hg2.out⟩
        case measure => simp [intOf]; omega
   ·obtain rfl : i = p.length := by omega
    go_wp2;go_ret
    first | exact ⟨_, rfl, Zc HgW.out hg.out⟩ | exact ⟨.inl rfl, Zc HgW.out hg.out⟩ | exact ⟨.inr rfl, Zc HgW.out hg.out⟩
end Go.Proofs.YtiheiaaifdjpeaaGreat
