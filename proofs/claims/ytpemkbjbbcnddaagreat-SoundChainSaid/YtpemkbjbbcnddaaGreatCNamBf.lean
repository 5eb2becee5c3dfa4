/- The contract of names.walk.badInstr. Conditions: the program and the shapes lie in memory. -/
import Derived.Test.YtpemkbjbbcnddaaGreatCShp
import Derived.Test.YtpemkbjbbcnddaaGreatCNam8
import Derived.Deep.DeepCutAuto
set_option linter.unusedVariables false
set_option linter.unusedSimpArgs false
set_option linter.unusedSectionVars false
namespace Go.Proofs.YtpemkbjbbcnddaaGreat
open Go.RowKit


set_option maxRecDepth 100000 in
set_option maxHeartbeats 6000000 in
theorem badInstr_1_none (vm : Value) (wb cb mb : Nat) (pt : GPt) (x : GIns) (A4 A5 : Option Addr) (d4 d5 : Nat) (w : World) (hop : shpOf x.op = none) (n1 : -9223372036854775808 ≤ x.n) (n2 : x.n ≤ 9223372036854775807) (m4 : x.args.length ≤ 9223372036854775807) (m5 : x.labels.length ≤ 9223372036854775807)
    (hbox : w.cell? ⟨cb, 0, none⟩ = some (.pointer (some ⟨wb, 0, none⟩))) (hlt : cb < w.heap.size) (hwl : wb < w.heap.size) (c1 : w.cell? ⟨wb, 1, none⟩ = some (.map (some mb))) (hmb : w.heap[mb]? = some shapeObj) :
    Calls Tryz.prog 89 #[.agg #[.int .i64 pt.1, .int .i64 pt.2.1, .int .i64 pt.2.2], .agg #[.int .u8 x.op, .string ⟨x.dst.toArray⟩, .string ⟨x.a.toArray⟩, .string ⟨x.b.toArray⟩, .int .i64 x.n, .string ⟨x.fn.toArray⟩, .slice A4 x.args.length d4, .slice A5 x.labels.length d5], .pointer (some ⟨cb, 0, none⟩)] w fun e w' =>
      e = .returned (.bool (badIns x)) ∧ Below w.heap.size w w' := by
  have hcn : cb ≠ w.heap.size := by omega
  have hwn : wb ≠ w.heap.size := by omega
  have hmbl := seen_lt hmb
  obtain ⟨op, dst, a, b, n, fn, args, labels⟩ := x
  simp only at hop n1 n2 m4 m5 ⊢
  have HE := Lib.hid (show badIns ⟨op, dst, a, b, n, fn, args, labels⟩ = true by simp [badIns, badShape, hop])
  obtain ⟨w2, hw2⟩ : ∃ w2 : World, w2 = (w.alloc (.cells #[.int .i64 pt.1, .int .i64 pt.2.1, .int .i64 pt.2.2] 29)).alloc (.cells #[.int .u8 (op : Int), .string ⟨dst.toArray⟩, .string ⟨a.toArray⟩, .string ⟨b.toArray⟩, .int .i64 n, .string ⟨fn.toArray⟩, .slice A4 args.length d4, .slice A5 labels.length d5] 45) := ⟨_, rfl⟩
  have hb2 : Below w.heap.size w w2 := by rw [hw2]; exact ((Below.refl w.heap.size w).alloc (Nat.le_refl _) _).alloc (by simp) _
  have hx2 : w2.heap[w.heap.size + 1]? = some (.cells #[.int .u8 (op : Int), .string ⟨dst.toArray⟩, .string ⟨a.toArray⟩, .string ⟨b.toArray⟩, .int .i64 n, .string ⟨fn.toArray⟩, .slice A4 args.length d4, .slice A5 labels.length d5] 45 (0, 0)) := by
    have := World.alloc_heap_new (w.alloc (.cells #[.int .i64 pt.1, .int .i64 pt.2.1, .int .i64 pt.2.2] 29)) (.cells #[.int .u8 (op : Int), .string ⟨dst.toArray⟩, .string ⟨a.toArray⟩, .string ⟨b.toArray⟩, .int .i64 n, .string ⟨fn.toArray⟩, .slice A4 args.length d4, .slice A5 labels.length d5] 45)
    rw [hw2]; simpa using this
  have hs2 : w2.heap.size = w.heap.size + 2 := by rw [hw2]; simp
  have hm2 := (hb2.block mb hmbl).trans hmb
  have hlkA := run_shapeOk (w := w2.drew) hm2 op
  have hlkB := fun o1 => run_shapeOk (w := (w2.alloc o1).drew) (seen_alloc hm2 o1) op
  simp only [shp0, hop, shpV, Option.getD_some, Option.getD_none, Option.isSome_some, Option.isSome_none] at hlkA hlkB
  have hbox2 := cur hb2 hlt hbox
  have c12 := cur hb2 hwl c1
  obtain ⟨k1, k2⟩ := blk_facts hx2
  have hl1 : cb < w2.heap.size := by omega
  have hl2 : wb < w2.heap.size := by omega
  have hl3 : w.heap.size + 1 < w2.heap.size := by omega
  have hl4 : w.heap.size + 1 ≠ w2.heap.size := by omega
  have Hb2 := Lib.hid hb2
  have Hx2 := Lib.hid hx2
  have Hs2 := Lib.hid hs2
  go_enter Tryz.func89, Tryz.ntmps89
  go_wp2_with fail
  rw [← hw2]
  clear hw2 hx2 hm2 hbox c1 hmb hb2 hs2
  go_region
  clear hlkA hlkB
  go_upto_region 2 with (fail)
  simp only [List.append]
  obtain ⟨w3, hw3⟩ : ∃ w3 : World, w3 = (w2.alloc (.cells (#[.bool false, .bool false, .bool false, .bool false, .bool false, .bool false, .bool false]) 126)).drew := ⟨_, rfl⟩
  obtain ⟨gs, hgs⟩ : ∃ gs, gs = w2.heap.size := ⟨_, rfl⟩
  obtain ⟨gx, hgx⟩ : ∃ gx, gx = w.heap.size + 1 := ⟨_, rfl⟩
  rw [← hw3, ← hgs, ← hgx]
  have hs3 := World.alloc_heap_new w2 (.cells (#[.bool false, .bool false, .bool false, .bool false, .bool false, .bool false, .bool false]) 126)
  obtain ⟨k3, k4⟩ := blk_facts (w := w3) (g := gs) (by rw [hw3, hgs]; exact hs3)
  obtain ⟨k1, k2⟩ := blk_facts (w := w3) (g := gx) (by rw [hw3, hgx]; exact seen_alloc Hx2.out _)
  have Hb3 := Lib.hid (show Below w.heap.size w w3 by rw [hw3]; exact (Hb2.out.alloc (by have := Hs2.out; omega) _).drew)
  clear hs3 hw3 hgs hgx k2 k4 hbox2 c12 hl1 hl2 hl3 hl4
  go_wp2_with fail
  go_ret
  exact ⟨by rw [HE.out]; rfl, Hb3.out⟩
end Go.Proofs.YtpemkbjbbcnddaaGreat
