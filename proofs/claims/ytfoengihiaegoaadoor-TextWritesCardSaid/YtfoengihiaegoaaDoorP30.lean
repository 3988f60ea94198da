-- written by wip/tools/drive.py, a driver round the kit's printer, and made smaller by wip/tools/slim.py
import Derived.Test.YtfoengihiaegoaaDoorP0
import Derived.Test.YtfoengihiaegoaaDoorP10
namespace Go.Proofs.YtfoengihiaegoaaDoor.P
open Go.RowKit Go.Proofs.YtfoengihiaegoaaDoorW.PrintWords Go.Proofs.YtfoengihiaegoaaDoorW.PrintLast Go.Proofs.YtfoengihiaegoaaDoorW.PrintMore
set_option linter.unusedVariables false
set_option linter.unusedSimpArgs false
theorem t30_0 {p : Prop} (h : p := by (with_reducible repeat (first | refine blk_drewN ?_ _ | refine blk_drew ?_ | refine blk_alloc ?_ _)); refine blk_put (cs := #[.string (⟨#[]⟩ : ByteArray), .string (⟨#[103, 101, 116]⟩ : ByteArray), .string (⟨#[115, 101, 116]⟩ : ByteArray), .string (⟨#[97, 100, 100]⟩ : ByteArray), .string (⟨#[114, 101, 112, 108, 97, 99, 101]⟩ : ByteArray), .string (⟨#[99, 97, 115]⟩ : ByteArray), .string (⟨#[105, 110, 99, 114]⟩ : ByteArray), .string (⟨#[100, 101, 99, 114]⟩ : ByteArray), .string (⟨#[97, 112, 112, 101, 110, 100]⟩ : ByteArray), .string (⟨#[116, 111, 117, 99, 104]⟩ : ByteArray), .string (⟨#[100, 101, 108, 101, 116, 101]⟩ : ByteArray), .string (⟨#[]⟩ : ByteArray)]) ?_ 11 _ rfl; (with_reducible repeat (first | refine blk_drewN ?_ _ | refine blk_drew ?_ | refine blk_alloc ?_ _)); refine blk_put (cs := #[.string (⟨#[]⟩ : ByteArray), .string (⟨#[103, 101, 116]⟩ : ByteArray), .string (⟨#[115, 101, 116]⟩ : ByteArray), .string (⟨#[97, 100, 100]⟩ : ByteArray), .string (⟨#[114, 101, 112, 108, 97, 99, 101]⟩ : ByteArray), .string (⟨#[99, 97, 115]⟩ : ByteArray), .string (⟨#[105, 110, 99, 114]⟩ : ByteArray), .string (⟨#[100, 101, 99, 114]⟩ : ByteArray), .string (⟨#[97, 112, 112, 101, 110, 100]⟩ : ByteArray), .string (⟨#[116, 111, 117, 99, 104]⟩ : ByteArray), .string (⟨#[]⟩ : ByteArray), .string (⟨#[]⟩ : ByteArray)]) ?_ 10 _ rfl; (with_reducible repeat (first | refine blk_drewN ?_ _ | refine blk_drew ?_ | refine blk_alloc ?_ _)); refine blk_put (cs := #[.string (⟨#[]⟩ : ByteArray), .string (⟨#[103, 101, 116]⟩ : ByteArray), .string (⟨#[115, 101, 116]⟩ : ByteArray), .string (⟨#[97, 100, 100]⟩ : ByteArray), .string (⟨#[114, 101, 112, 108, 97, 99, 101]⟩ : ByteArray), .string (⟨#[99, 97, 115]⟩ : ByteArray), .string (⟨#[105, 110, 99, 114]⟩ : ByteArray), .string (⟨#[100, 101, 99, 114]⟩ : ByteArray), .string (⟨#[97, 112, 112, 101, 110, 100]⟩ : ByteArray), .string (⟨#[]⟩ : ByteArray), .string (⟨#[]⟩ : ByteArray), .string (⟨#[]⟩ : ByteArray)]) ?_ 9 _ rfl; (with_reducible repeat (first | refine blk_drewN ?_ _ | refine blk_drew ?_ | refine blk_alloc ?_ _)); refine blk_put (cs := #[.string (⟨#[]⟩ : ByteArray), .string (⟨#[103, 101, 116]⟩ : ByteArray), .string (⟨#[115, 101, 116]⟩ : ByteArray), .string (⟨#[97, 100, 100]⟩ : ByteArray), .string (⟨#[114, 101, 112, 108, 97, 99, 101]⟩ : ByteArray), .string (⟨#[99, 97, 115]⟩ : ByteArray), .string (⟨#[105, 110, 99, 114]⟩ : ByteArray), .string (⟨#[100, 101, 99, 114]⟩ : ByteArray), .string (⟨#[]⟩ : ByteArray), .string (⟨#[]⟩ : ByteArray), .string (⟨#[]⟩ : ByteArray), .string (⟨#[]⟩ : ByteArray)]) ?_ 8 _ rfl; (with_reducible repeat (first | refine blk_drewN ?_ _ | refine blk_drew ?_ | refine blk_alloc ?_ _)); refine blk_put (cs := #[.string (⟨#[]⟩ : ByteArray), .string (⟨#[103, 101, 116]⟩ : ByteArray), .string (⟨#[115, 101, 116]⟩ : ByteArray), .string (⟨#[97, 100, 100]⟩ : ByteArray), .string (⟨#[114, 101, 112, 108, 97, 99, 101]⟩ : ByteArray), .string (⟨#[99, 97, 115]⟩ : ByteArray), .string (⟨#[105, 110, 99, 114]⟩ : ByteArray), .string (⟨#[]⟩ : ByteArray), .string (⟨#[]⟩ : ByteArray), .string (⟨#[]⟩ : ByteArray), .string (⟨#[]⟩ : ByteArray), .string (⟨#[]⟩ : ByteArray)]) ?_ 7 _ rfl; (with_reducible repeat (first | refine blk_drewN ?_ _ | refine blk_drew ?_ | refine blk_alloc ?_ _)); refine blk_put (cs := #[.string (⟨#[]⟩ : ByteArray), .string (⟨#[103, 101, 116]⟩ : ByteArray), .string (⟨#[115, 101, 116]⟩ : ByteArray), .string (⟨#[97, 100, 100]⟩ : ByteArray), .string (⟨#[114, 101, 112, 108, 97, 99, 101]⟩ : ByteArray), .string (⟨#[99, 97, 115]⟩ : ByteArray), .string (⟨#[]⟩ : ByteArray), .string (⟨#[]⟩ : ByteArray), .string (⟨#[]⟩ : ByteArray), .string (⟨#[]⟩ : ByteArray), .string (⟨#[]⟩ : ByteArray), .string (⟨#[]⟩ : ByteArray)]) ?_ 6 _ rfl; (with_reducible repeat (first | refine blk_drewN ?_ _ | refine blk_drew ?_ | refine blk_alloc ?_ _)); refine blk_put (cs := #[.string (⟨#[]⟩ : ByteArray), .string (⟨#[103, 101, 116]⟩ : ByteArray), .string (⟨#[115, 101, 116]⟩ : ByteArray), .string (⟨#[97, 100, 100]⟩ : ByteArray), .string (⟨#[114, 101, 112, 108, 97, 99, 101]⟩ : ByteArray), .string (⟨#[]⟩ : ByteArray), .string (⟨#[]⟩ : ByteArray), .string (⟨#[]⟩ : ByteArray), .string (⟨#[]⟩ : ByteArray), .string (⟨#[]⟩ : ByteArray), .string (⟨#[]⟩ : ByteArray), .string (⟨#[]⟩ : ByteArray)]) ?_ 5 _ rfl; (with_reducible repeat (first | refine blk_drewN ?_ _ | refine blk_drew ?_ | refine blk_alloc ?_ _)); refine blk_put (cs := #[.string (⟨#[]⟩ : ByteArray), .string (⟨#[103, 101, 116]⟩ : ByteArray), .string (⟨#[115, 101, 116]⟩ : ByteArray), .string (⟨#[97, 100, 100]⟩ : ByteArray), .string (⟨#[]⟩ : ByteArray), .string (⟨#[]⟩ : ByteArray), .string (⟨#[]⟩ : ByteArray), .string (⟨#[]⟩ : ByteArray), .string (⟨#[]⟩ : ByteArray), .string (⟨#[]⟩ : ByteArray), .string (⟨#[]⟩ : ByteArray), .string (⟨#[]⟩ : ByteArray)]) ?_ 4 _ rfl; (with_reducible repeat (first | refine blk_drewN ?_ _ | refine blk_drew ?_ | refine blk_alloc ?_ _)); refine blk_put (cs := #[.string (⟨#[]⟩ : ByteArray), .string (⟨#[103, 101, 116]⟩ : ByteArray), .string (⟨#[115, 101, 116]⟩ : ByteArray), .string (⟨#[]⟩ : ByteArray), .string (⟨#[]⟩ : ByteArray), .string (⟨#[]⟩ : ByteArray), .string (⟨#[]⟩ : ByteArray), .string (⟨#[]⟩ : ByteArray), .string (⟨#[]⟩ : ByteArray), .string (⟨#[]⟩ : ByteArray), .string (⟨#[]⟩ : ByteArray), .string (⟨#[]⟩ : ByteArray)]) ?_ 3 _ rfl; (with_reducible repeat (first | refine blk_drewN ?_ _ | refine blk_drew ?_ | refine blk_alloc ?_ _)); refine blk_put (cs := #[.string (⟨#[]⟩ : ByteArray), .string (⟨#[103, 101, 116]⟩ : ByteArray), .string (⟨#[]⟩ : ByteArray), .string (⟨#[]⟩ : ByteArray), .string (⟨#[]⟩ : ByteArray), .string (⟨#[]⟩ : ByteArray), .string (⟨#[]⟩ : ByteArray), .string (⟨#[]⟩ : ByteArray), .string (⟨#[]⟩ : ByteArray), .string (⟨#[]⟩ : ByteArray), .string (⟨#[]⟩ : ByteArray), .string (⟨#[]⟩ : ByteArray)]) ?_ 2 _ rfl; (with_reducible repeat (first | refine blk_drewN ?_ _ | refine blk_drew ?_ | refine blk_alloc ?_ _)); refine blk_put (cs := #[.string (⟨#[]⟩ : ByteArray), .string (⟨#[]⟩ : ByteArray), .string (⟨#[]⟩ : ByteArray), .string (⟨#[]⟩ : ByteArray), .string (⟨#[]⟩ : ByteArray), .string (⟨#[]⟩ : ByteArray), .string (⟨#[]⟩ : ByteArray), .string (⟨#[]⟩ : ByteArray), .string (⟨#[]⟩ : ByteArray), .string (⟨#[]⟩ : ByteArray), .string (⟨#[]⟩ : ByteArray), .string (⟨#[]⟩ : ByteArray)]) ?_ 1 _ rfl; (with_reducible repeat (first | refine blk_drewN ?_ _ | refine blk_drew ?_ | refine blk_alloc ?_ _)); refine blk_put (cs := #[.string (⟨#[]⟩ : ByteArray), .string (⟨#[]⟩ : ByteArray), .string (⟨#[]⟩ : ByteArray), .string (⟨#[]⟩ : ByteArray), .string (⟨#[]⟩ : ByteArray), .string (⟨#[]⟩ : ByteArray), .string (⟨#[]⟩ : ByteArray), .string (⟨#[]⟩ : ByteArray), .string (⟨#[]⟩ : ByteArray), .string (⟨#[]⟩ : ByteArray), .string (⟨#[]⟩ : ByteArray), .string (⟨#[]⟩ : ByteArray)]) ?_ 0 _ rfl; (with_reducible repeat (first | refine blk_drewN ?_ _ | refine blk_drew ?_ | refine blk_alloc ?_ _)); exact BK312.out) : p := h
theorem t30_1 {p : Prop} (h : p := by (with_reducible repeat (first | refine blk_drewN ?_ _ | refine blk_drew ?_ | refine blk_alloc ?_ _)); refine blk_far ?_ NB311_312.out _; (with_reducible repeat (first | refine blk_drewN ?_ _ | refine blk_drew ?_ | refine blk_alloc ?_ _)); refine blk_far ?_ NB311_312.out _; (with_reducible repeat (first | refine blk_drewN ?_ _ | refine blk_drew ?_ | refine blk_alloc ?_ _)); refine blk_far ?_ NB311_312.out _; (with_reducible repeat (first | refine blk_drewN ?_ _ | refine blk_drew ?_ | refine blk_alloc ?_ _)); refine blk_far ?_ NB311_312.out _; (with_reducible repeat (first | refine blk_drewN ?_ _ | refine blk_drew ?_ | refine blk_alloc ?_ _)); refine blk_far ?_ NB311_312.out _; (with_reducible repeat (first | refine blk_drewN ?_ _ | refine blk_drew ?_ | refine blk_alloc ?_ _)); refine blk_far ?_ NB311_312.out _; (with_reducible repeat (first | refine blk_drewN ?_ _ | refine blk_drew ?_ | refine blk_alloc ?_ _)); refine blk_far ?_ NB311_312.out _; (with_reducible repeat (first | refine blk_drewN ?_ _ | refine blk_drew ?_ | refine blk_alloc ?_ _)); refine blk_far ?_ NB311_312.out _; (with_reducible repeat (first | refine blk_drewN ?_ _ | refine blk_drew ?_ | refine blk_alloc ?_ _)); refine blk_far ?_ NB311_312.out _; (with_reducible repeat (first | refine blk_drewN ?_ _ | refine blk_drew ?_ | refine blk_alloc ?_ _)); refine blk_far ?_ NB311_312.out _; (with_reducible repeat (first | refine blk_drewN ?_ _ | refine blk_drew ?_ | refine blk_alloc ?_ _)); refine blk_far ?_ NB311_312.out _; (with_reducible repeat (first | refine blk_drewN ?_ _ | refine blk_drew ?_ | refine blk_alloc ?_ _)); refine blk_far ?_ NB311_312.out _; (with_reducible repeat (first | refine blk_drewN ?_ _ | refine blk_drew ?_ | refine blk_alloc ?_ _)); exact BK311.out) : p := h
theorem t30_2 {p : Prop} (h : p := by repeat (first | (with_reducible first | exact HB.out | apply below_alloc | apply pw_below_drewN | apply below_drew1 | refine below_set ?_ GE311.out | refine below_set ?_ GE312.out) | exact HB.out)) : p := h
theorem t30_3 {p : Prop} (h : p := by (with_reducible repeat (first | refine blk_drewN ?_ _ | refine blk_drew ?_ | refine blk_alloc ?_ _)); exact BK311.out) : p := h
theorem t30_4 {p : Prop} (h : p := by first | rfl | (simp; done) | (simp [*]; done) | exact x_nonempty _ | (simp [x_nonempty]; done)) : p := h
theorem t30_5 {p : Prop} (h : p := by (with_reducible repeat (first | refine blk_drewN ?_ _ | refine blk_drew ?_ | refine blk_alloc ?_ _)); exact BK312.out) : p := h
theorem t30_6 {p : Prop} (h : p := by repeat (first | (with_reducible first | exact HB.out | apply below_alloc | apply pw_below_drewN | apply below_drew1 | refine below_set ?_ GE311.out) | exact HB.out)) : p := h
theorem t30_7 {p : Prop} (h : p := by repeat (first | (with_reducible first | exact HB.out | apply below_alloc | apply pw_below_drewN | apply below_drew1) | exact HB.out)) : p := h
theorem t30_8 {p : Prop} (h : p := by first | rfl | (simp [errW_none, errW_some] <;> rfl) | (simp [*, errW_none, errW_some] <;> rfl)) : p := h
theorem t30_9 {p : Prop} (h : p := by rw [hg]; exact Nat.ne_of_lt (blk_lt (g := gb311) (o := .cells #[.int .u8 a0_0, .int .i64 a0_1, .slice A0_2 l0_2.length c0_2, .string a0_3, .int .u32 a0_4, .int .i64 a0_5, .int .u64 a0_6, .int .u64 a0_7] 40 (0, 0)) t30_3)) : p := h
theorem t30_10 {p : Prop} (h : p := by rw [hg]; exact Nat.ne_of_gt (blk_lt (g := gb311) (o := .cells #[.int .u8 a0_0, .int .i64 a0_1, .slice A0_2 l0_2.length c0_2, .string a0_3, .int .u32 a0_4, .int .i64 a0_5, .int .u64 a0_6, .int .u64 a0_7] 40 (0, 0)) t30_3)) : p := h
theorem t30_11 {p : Prop} (h : p := by first | omega | exact Nat.le_refl _) : p := h
theorem t30_12 {p : Prop} (h : p := by have := HJ1.out; have := HK2.out; have := HJ60.out; have := HJ68.out; first | omega | exact Nat.le_refl _) : p := h
theorem t30_13 {p : Prop} (h : p := by have := HJ1.out; have := HK2.out; have := HJ60.out; have := HJ68.out; have := HJ78.out; have := HJ87.out; have := HJ94.out; have := HJ103.out; first | omega | exact Nat.le_refl _) : p := h
theorem t30_14 {p : Prop} (h : p := by rw [hg]; exact (below_size t30_7)) : p := h
theorem t30_15 {p : Prop} (h : p := by rw [hg]; exact (below_size t30_6)) : p := h
theorem t30_16 {p : Prop} (h : p := by have := HJ1.out; have := HK2.out; have := HJ60.out; have := HJ68.out; have := HJ78.out; have := HJ87.out; have := HJ94.out; first | omega | exact Nat.le_refl _) : p := h
theorem t30_17 {p : Prop} (h : p := by have := HJ1.out; have := HK2.out; have := HJ60.out; have := HJ68.out; have := HJ78.out; have := HJ87.out; first | omega | exact Nat.le_refl _) : p := h
theorem t30_18 {p : Prop} (h : p := by have := HJ1.out; have := HK2.out; have := HJ60.out; have := HJ68.out; have := HJ78.out; first | omega | exact Nat.le_refl _) : p := h
mutual
def cloakroomref14_line.j0 : Nat → ByteArray → Int → Int → List ByteArray → ByteArray → Int → Int → Int → Int → Option (ByteArray)
 | 0, _, _, _, _, _, _, _, _, _ => none
 | k + 1, x4, x312000, x312001, x312002, x312003, x312004, x312005, x312006, x312007 => cloakroomref14_line.l0 k x4 0 x312000 x312001 x312002 x312003 x312004 x312005 x312006 x312007
def cloakroomref14_line.l0 : Nat → ByteArray → Int → Int → Int → List ByteArray → ByteArray → Int → Int → Int → Int → Option (ByteArray)
 | 0, _, _, _, _, _, _, _, _, _, _ => none
 | k + 1, x4, x5, x312000, x312001, x312002, x312003, x312004, x312005, x312006, x312007 => if x5 < (x312002.length : Int) then (if x4.size + 1 ≤ 9223372036854775807 then (if 0 ≤ x5 then (if (x4 ++ (⟨#[32]⟩ : ByteArray)).size + (rdOf ByteArray.empty x312002 x5).size ≤ 9223372036854775807 then (cloakroomref14_line.l0 k ((x4 ++ (⟨#[32]⟩ : ByteArray)) ++ (rdOf ByteArray.empty x312002 x5)) (wrap64 (x5 + 1)) x312000 x312001 x312002 x312003 x312004 x312005 x312006 x312007) else (none)) else (none)) else (none)) else (if x312000 ≥ 2 then (cloakroomref14_line.j2 k x4 (decide (x312000 ≤ 5)) x312000 x312001 x312002 x312003 x312004 x312005 x312006 x312007) else (cloakroomref14_line.j2 k x4 false x312000 x312001 x312002 x312003 x312004 x312005 x312006 x312007))
def cloakroomref14_line.j2 : Nat → ByteArray → Bool → Int → Int → List ByteArray → ByteArray → Int → Int → Int → Int → Option (ByteArray)
 | 0, _, _, _, _, _, _, _, _, _, _ => none
 | k + 1, x4, x33, x312000, x312001, x312002, x312003, x312004, x312005, x312006, x312007 => if x33 = true then (if x4.size + 1 ≤ 9223372036854775807 then ((cloakroomref09_Text.f k (IntKind.u64.wrap (x312004))).bind fun t314 => (if (x4 ++ (⟨#[32]⟩ : ByteArray)).size + t314.size ≤ 9223372036854775807 then (if ((x4 ++ (⟨#[32]⟩ : ByteArray)) ++ t314).size + 1 ≤ 9223372036854775807 then ((cloakroomref09_Text.f k (IntKind.u64.wrap (x312005))).bind fun t315 => (if (((x4 ++ (⟨#[32]⟩ : ByteArray)) ++ t314) ++ (⟨#[32]⟩ : ByteArray)).size + t315.size ≤ 9223372036854775807 then (cloakroomref14_line.j3 k ((((x4 ++ (⟨#[32]⟩ : ByteArray)) ++ t314) ++ (⟨#[32]⟩ : ByteArray)) ++ t315) x312000 x312001 x312002 x312003 x312004 x312005 x312006 x312007) else (none))) else (none)) else (none))) else (none)) else (cloakroomref14_line.j3 k x4 x312000 x312001 x312002 x312003 x312004 x312005 x312006 x312007)
def cloakroomref14_line.j3 : Nat → ByteArray → Int → Int → List ByteArray → ByteArray → Int → Int → Int → Int → Option (ByteArray)
 | 0, _, _, _, _, _, _, _, _, _ => none
 | k + 1, x4, x312000, x312001, x312002, x312003, x312004, x312005, x312006, x312007 => if x312000 ≥ 2 then (if x312000 ≤ 5 then (cloakroomref14_line.j4 k x4 true x312000 x312001 x312002 x312003 x312004 x312005 x312006 x312007) else (cloakroomref14_line.j4 k x4 (x312000 == 8) x312000 x312001 x312002 x312003 x312004 x312005 x312006 x312007)) else (cloakroomref14_line.j4 k x4 (x312000 == 8) x312000 x312001 x312002 x312003 x312004 x312005 x312006 x312007)
def cloakroomref14_line.j4 : Nat → ByteArray → Bool → Int → Int → List ByteArray → ByteArray → Int → Int → Int → Int → Option (ByteArray)
 | 0, _, _, _, _, _, _, _, _, _, _ => none
 | k + 1, x4, x59, x312000, x312001, x312002, x312003, x312004, x312005, x312006, x312007 => if x59 = true then (if x4.size + 1 ≤ 9223372036854775807 then ((cloakroomref09_Text.f k (IntKind.u64.wrap ((x312003.size : Int)))).bind fun t316 => (if (x4 ++ (⟨#[32]⟩ : ByteArray)).size + t316.size ≤ 9223372036854775807 then (cloakroomref14_line.j5 k ((x4 ++ (⟨#[32]⟩ : ByteArray)) ++ t316) x312000 x312001 x312002 x312003 x312004 x312005 x312006 x312007) else (none))) else (none)) else (cloakroomref14_line.j5 k x4 x312000 x312001 x312002 x312003 x312004 x312005 x312006 x312007)
def cloakroomref14_line.j5 : Nat → ByteArray → Int → Int → List ByteArray → ByteArray → Int → Int → Int → Int → Option (ByteArray)
 | 0, _, _, _, _, _, _, _, _, _ => none
 | k + 1, x4, x312000, x312001, x312002, x312003, x312004, x312005, x312006, x312007 => if x312000 = 5 then (if x4.size + 1 ≤ 9223372036854775807 then ((cloakroomref09_Text.f k x312006).bind fun t317 => (if (x4 ++ (⟨#[32]⟩ : ByteArray)).size + t317.size ≤ 9223372036854775807 then (cloakroomref14_line.j6 k ((x4 ++ (⟨#[32]⟩ : ByteArray)) ++ t317) x312000 x312001 x312002 x312003 x312004 x312005 x312006 x312007) else (none))) else (none)) else (cloakroomref14_line.j6 k x4 x312000 x312001 x312002 x312003 x312004 x312005 x312006 x312007)
def cloakroomref14_line.j6 : Nat → ByteArray → Int → Int → List ByteArray → ByteArray → Int → Int → Int → Int → Option (ByteArray)
 | 0, _, _, _, _, _, _, _, _, _ => none
 | k + 1, x4, x312000, x312001, x312002, x312003, x312004, x312005, x312006, x312007 => if x312000 = 6 then (cloakroomref14_line.j7 k x4 true x312000 x312001 x312002 x312003 x312004 x312005 x312006 x312007) else (cloakroomref14_line.j7 k x4 (x312000 == 7) x312000 x312001 x312002 x312003 x312004 x312005 x312006 x312007)
def cloakroomref14_line.j7 : Nat → ByteArray → Bool → Int → Int → List ByteArray → ByteArray → Int → Int → Int → Int → Option (ByteArray)
 | 0, _, _, _, _, _, _, _, _, _, _ => none
 | k + 1, x4, x84, x312000, x312001, x312002, x312003, x312004, x312005, x312006, x312007 => if x84 = true then (if x4.size + 1 ≤ 9223372036854775807 then ((cloakroomref09_Text.f k x312007).bind fun t318 => (if (x4 ++ (⟨#[32]⟩ : ByteArray)).size + t318.size ≤ 9223372036854775807 then (cloakroomref14_line.j8 k ((x4 ++ (⟨#[32]⟩ : ByteArray)) ++ t318) x312000 x312001 x312002 x312003 x312004 x312005 x312006 x312007) else (none))) else (none)) else (cloakroomref14_line.j8 k x4 x312000 x312001 x312002 x312003 x312004 x312005 x312006 x312007)
def cloakroomref14_line.j8 : Nat → ByteArray → Int → Int → List ByteArray → ByteArray → Int → Int → Int → Int → Option (ByteArray)
 | 0, _, _, _, _, _, _, _, _, _ => none
 | k + 1, x4, x312000, x312001, x312002, x312003, x312004, x312005, x312006, x312007 => if x312000 = 9 then (if x4.size + 1 ≤ 9223372036854775807 then ((cloakroomref09_Text.f k (IntKind.u64.wrap (x312005))).bind fun t319 => (if (x4 ++ (⟨#[32]⟩ : ByteArray)).size + t319.size ≤ 9223372036854775807 then (if ((x4 ++ (⟨#[32]⟩ : ByteArray)) ++ t319).size + 2 ≤ 9223372036854775807 then (if x312000 ≥ 2 then (if x312000 ≤ 5 then (if (((x4 ++ (⟨#[32]⟩ : ByteArray)) ++ t319) ++ (⟨#[13, 10]⟩ : ByteArray)).size + x312003.size ≤ 9223372036854775807 then (if ((((x4 ++ (⟨#[32]⟩ : ByteArray)) ++ t319) ++ (⟨#[13, 10]⟩ : ByteArray)) ++ x312003).size + 2 ≤ 9223372036854775807 then (some (((((x4 ++ (⟨#[32]⟩ : ByteArray)) ++ t319) ++ (⟨#[13, 10]⟩ : ByteArray)) ++ x312003) ++ (⟨#[13, 10]⟩ : ByteArray))) else (none)) else (none)) else (if x312000 = 8 then (if (((x4 ++ (⟨#[32]⟩ : ByteArray)) ++ t319) ++ (⟨#[13, 10]⟩ : ByteArray)).size + x312003.size ≤ 9223372036854775807 then (if ((((x4 ++ (⟨#[32]⟩ : ByteArray)) ++ t319) ++ (⟨#[13, 10]⟩ : ByteArray)) ++ x312003).size + 2 ≤ 9223372036854775807 then (some (((((x4 ++ (⟨#[32]⟩ : ByteArray)) ++ t319) ++ (⟨#[13, 10]⟩ : ByteArray)) ++ x312003) ++ (⟨#[13, 10]⟩ : ByteArray))) else (none)) else (none)) else (some (((x4 ++ (⟨#[32]⟩ : ByteArray)) ++ t319) ++ (⟨#[13, 10]⟩ : ByteArray))))) else (if x312000 = 8 then (if (((x4 ++ (⟨#[32]⟩ : ByteArray)) ++ t319) ++ (⟨#[13, 10]⟩ : ByteArray)).size + x312003.size ≤ 9223372036854775807 then (if ((((x4 ++ (⟨#[32]⟩ : ByteArray)) ++ t319) ++ (⟨#[13, 10]⟩ : ByteArray)) ++ x312003).size + 2 ≤ 9223372036854775807 then (some (((((x4 ++ (⟨#[32]⟩ : ByteArray)) ++ t319) ++ (⟨#[13, 10]⟩ : ByteArray)) ++ x312003) ++ (⟨#[13, 10]⟩ : ByteArray))) else (none)) else (none)) else (some (((x4 ++ (⟨#[32]⟩ : ByteArray)) ++ t319) ++ (⟨#[13, 10]⟩ : ByteArray))))) else (none)) else (none))) else (none)) else (if x4.size + 2 ≤ 9223372036854775807 then (if x312000 ≥ 2 then (if x312000 ≤ 5 then (if (x4 ++ (⟨#[13, 10]⟩ : ByteArray)).size + x312003.size ≤ 9223372036854775807 then (if ((x4 ++ (⟨#[13, 10]⟩ : ByteArray)) ++ x312003).size + 2 ≤ 9223372036854775807 then (some (((x4 ++ (⟨#[13, 10]⟩ : ByteArray)) ++ x312003) ++ (⟨#[13, 10]⟩ : ByteArray))) else (none)) else (none)) else (if x312000 = 8 then (if (x4 ++ (⟨#[13, 10]⟩ : ByteArray)).size + x312003.size ≤ 9223372036854775807 then (if ((x4 ++ (⟨#[13, 10]⟩ : ByteArray)) ++ x312003).size + 2 ≤ 9223372036854775807 then (some (((x4 ++ (⟨#[13, 10]⟩ : ByteArray)) ++ x312003) ++ (⟨#[13, 10]⟩ : ByteArray))) else (none)) else (none)) else (some (x4 ++ (⟨#[13, 10]⟩ : ByteArray))))) else (if x312000 = 8 then (if (x4 ++ (⟨#[13, 10]⟩ : ByteArray)).size + x312003.size ≤ 9223372036854775807 then (if ((x4 ++ (⟨#[13, 10]⟩ : ByteArray)) ++ x312003).size + 2 ≤ 9223372036854775807 then (some (((x4 ++ (⟨#[13, 10]⟩ : ByteArray)) ++ x312003) ++ (⟨#[13, 10]⟩ : ByteArray))) else (none)) else (none)) else (some (x4 ++ (⟨#[13, 10]⟩ : ByteArray))))) else (none))
end
def cloakroomref14_line.f (k : Nat) (a0_0 : Int) (a0_1 : Int) (l0_2 : List ByteArray) (a0_3 : ByteArray) (a0_4 : Int) (a0_5 : Int) (a0_6 : Int) (a0_7 : Int) : Option (ByteArray) := if a0_0 = 0 then (cloakroomref14_line.j0 k (⟨#[]⟩ : ByteArray) a0_0 a0_1 l0_2 a0_3 a0_4 a0_5 a0_6 a0_7) else (if a0_0 = 1 then (cloakroomref14_line.j0 k (⟨#[103, 101, 116]⟩ : ByteArray) a0_0 a0_1 l0_2 a0_3 a0_4 a0_5 a0_6 a0_7) else (if a0_0 = 2 then (cloakroomref14_line.j0 k (⟨#[115, 101, 116]⟩ : ByteArray) a0_0 a0_1 l0_2 a0_3 a0_4 a0_5 a0_6 a0_7) else (if a0_0 = 3 then (cloakroomref14_line.j0 k (⟨#[97, 100, 100]⟩ : ByteArray) a0_0 a0_1 l0_2 a0_3 a0_4 a0_5 a0_6 a0_7) else (if a0_0 = 4 then (cloakroomref14_line.j0 k (⟨#[114, 101, 112, 108, 97, 99, 101]⟩ : ByteArray) a0_0 a0_1 l0_2 a0_3 a0_4 a0_5 a0_6 a0_7) else (if a0_0 = 5 then (cloakroomref14_line.j0 k (⟨#[99, 97, 115]⟩ : ByteArray) a0_0 a0_1 l0_2 a0_3 a0_4 a0_5 a0_6 a0_7) else (if a0_0 = 6 then (cloakroomref14_line.j0 k (⟨#[105, 110, 99, 114]⟩ : ByteArray) a0_0 a0_1 l0_2 a0_3 a0_4 a0_5 a0_6 a0_7) else (if a0_0 = 7 then (cloakroomref14_line.j0 k (⟨#[100, 101, 99, 114]⟩ : ByteArray) a0_0 a0_1 l0_2 a0_3 a0_4 a0_5 a0_6 a0_7) else (if a0_0 = 8 then (cloakroomref14_line.j0 k (⟨#[97, 112, 112, 101, 110, 100]⟩ : ByteArray) a0_0 a0_1 l0_2 a0_3 a0_4 a0_5 a0_6 a0_7) else (if a0_0 = 9 then (cloakroomref14_line.j0 k (⟨#[116, 111, 117, 99, 104]⟩ : ByteArray) a0_0 a0_1 l0_2 a0_3 a0_4 a0_5 a0_6 a0_7) else (if a0_0 = 10 then (cloakroomref14_line.j0 k (⟨#[100, 101, 108, 101, 116, 101]⟩ : ByteArray) a0_0 a0_1 l0_2 a0_3 a0_4 a0_5 a0_6 a0_7) else (if a0_0 = 11 then (cloakroomref14_line.j0 k (⟨#[102, 108, 117, 115, 104]⟩ : ByteArray) a0_0 a0_1 l0_2 a0_3 a0_4 a0_5 a0_6 a0_7) else (none))))))))))))
theorem cloakroomref14_line.mono_l : ∀ k, (∀ y0 y1 y2 y3 y4 y5 y6 y7 y8, LeO (cloakroomref14_line.j0 k y0 y1 y2 y3 y4 y5 y6 y7 y8) (cloakroomref14_line.j0 (k + 1) y0 y1 y2 y3 y4 y5 y6 y7 y8)) ∧ (∀ y0 y1 y2 y3 y4 y5 y6 y7 y8 y9, LeO (cloakroomref14_line.l0 k y0 y1 y2 y3 y4 y5 y6 y7 y8 y9) (cloakroomref14_line.l0 (k + 1) y0 y1 y2 y3 y4 y5 y6 y7 y8 y9)) ∧ (∀ y0 y1 y2 y3 y4 y5 y6 y7 y8 y9, LeO (cloakroomref14_line.j2 k y0 y1 y2 y3 y4 y5 y6 y7 y8 y9) (cloakroomref14_line.j2 (k + 1) y0 y1 y2 y3 y4 y5 y6 y7 y8 y9)) ∧ (∀ y0 y1 y2 y3 y4 y5 y6 y7 y8, LeO (cloakroomref14_line.j3 k y0 y1 y2 y3 y4 y5 y6 y7 y8) (cloakroomref14_line.j3 (k + 1) y0 y1 y2 y3 y4 y5 y6 y7 y8)) ∧ (∀ y0 y1 y2 y3 y4 y5 y6 y7 y8 y9, LeO (cloakroomref14_line.j4 k y0 y1 y2 y3 y4 y5 y6 y7 y8 y9) (cloakroomref14_line.j4 (k + 1) y0 y1 y2 y3 y4 y5 y6 y7 y8 y9)) ∧ (∀ y0 y1 y2 y3 y4 y5 y6 y7 y8, LeO (cloakroomref14_line.j5 k y0 y1 y2 y3 y4 y5 y6 y7 y8) (cloakroomref14_line.j5 (k + 1) y0 y1 y2 y3 y4 y5 y6 y7 y8)) ∧ (∀ y0 y1 y2 y3 y4 y5 y6 y7 y8, LeO (cloakroomref14_line.j6 k y0 y1 y2 y3 y4 y5 y6 y7 y8) (cloakroomref14_line.j6 (k + 1) y0 y1 y2 y3 y4 y5 y6 y7 y8)) ∧ (∀ y0 y1 y2 y3 y4 y5 y6 y7 y8 y9, LeO (cloakroomref14_line.j7 k y0 y1 y2 y3 y4 y5 y6 y7 y8 y9) (cloakroomref14_line.j7 (k + 1) y0 y1 y2 y3 y4 y5 y6 y7 y8 y9)) ∧ (∀ y0 y1 y2 y3 y4 y5 y6 y7 y8, LeO (cloakroomref14_line.j8 k y0 y1 y2 y3 y4 y5 y6 y7 y8) (cloakroomref14_line.j8 (k + 1) y0 y1 y2 y3 y4 y5 y6 y7 y8))
 | 0 => ⟨fun _ _ _ _ _ _ _ _ _ r h => by simp [cloakroomref14_line.j0] at h, fun _ _ _ _ _ _ _ _ _ _ r h => by simp [cloakroomref14_line.l0] at h, fun _ _ _ _ _ _ _ _ _ _ r h => by simp [cloakroomref14_line.j2] at h, fun _ _ _ _ _ _ _ _ _ r h => by simp [cloakroomref14_line.j3] at h, fun _ _ _ _ _ _ _ _ _ _ r h => by simp [cloakroomref14_line.j4] at h, fun _ _ _ _ _ _ _ _ _ r h => by simp [cloakroomref14_line.j5] at h, fun _ _ _ _ _ _ _ _ _ r h => by simp [cloakroomref14_line.j6] at h, fun _ _ _ _ _ _ _ _ _ _ r h => by simp [cloakroomref14_line.j7] at h, fun _ _ _ _ _ _ _ _ _ r h => by simp [cloakroomref14_line.j8] at h⟩
 | k + 1 => by
  obtain ⟨ih0, ih1, ih2, ih3, ih4, ih5, ih6, ih7, ih8⟩ := cloakroomref14_line.mono_l k
  refine ⟨?_, ?_, ?_, ?_, ?_, ?_, ?_, ?_, ?_⟩
  all_goals intros
  all_goals (first | unfold cloakroomref14_line.j0 | unfold cloakroomref14_line.l0 | unfold cloakroomref14_line.j2 | unfold cloakroomref14_line.j3 | unfold cloakroomref14_line.j4 | unfold cloakroomref14_line.j5 | unfold cloakroomref14_line.j6 | unfold cloakroomref14_line.j7 | unfold cloakroomref14_line.j8)
  all_goals repeat' first | (with_reducible first | apply ih0 | apply ih1 | apply ih2 | apply ih3 | apply ih4 | apply ih5 | apply ih6 | apply ih7 | apply ih8 | apply cloakroomref09_Text.mono | exact LeO.refl _ | exact LeO.none _ | refine LeO.ite ?_ ?_ | refine LeO.bind ?_ (fun _ => ?_)) | exact LeO.none _ | refine LeO.ite ?_ ?_ | refine LeO.bind ?_ (fun _ => ?_)
theorem cloakroomref14_line.mono : ∀ a0 a1 a2 a3 a4 a5 a6 a7 k, LeO (cloakroomref14_line.f k a0 a1 a2 a3 a4 a5 a6 a7) (cloakroomref14_line.f (k + 1) a0 a1 a2 a3 a4 a5 a6 a7) := by
 intro a0 a1 a2 a3 a4 a5 a6 a7 k
 obtain ⟨ih0, ih1, ih2, ih3, ih4, ih5, ih6, ih7, ih8⟩ := cloakroomref14_line.mono_l k
 unfold cloakroomref14_line.f
 repeat' first | (with_reducible first | apply ih0 | apply ih1 | apply ih2 | apply ih3 | apply ih4 | apply ih5 | apply ih6 | apply ih7 | apply ih8 | apply cloakroomref09_Text.mono | exact LeO.refl _ | exact LeO.none _ | refine LeO.ite ?_ ?_ | refine LeO.bind ?_ (fun _ => ?_)) | exact LeO.none _ | refine LeO.ite ?_ ?_ | refine LeO.bind ?_ (fun _ => ?_)
set_option maxHeartbeats 8000000 in
set_option maxRecDepth 100000 in
theorem cloakroomref14_line.calls (k : Nat) (a0_0 : Int) (a0_1 : Int) (A0_2 : Option Addr) (c0_2 : Nat) (l0_2 : List ByteArray) (a0_3 : ByteArray) (a0_4 : Int) (a0_5 : Int) (a0_6 : Int) (a0_7 : Int) (r : ByteArray) (w : World) (hr0_2 : Kd.C Kd.string w A0_2 l0_2.length l0_2) (hc0_2 : l0_2.length ≤ c0_2) (h : cloakroomref14_line.f k a0_0 a0_1 l0_2 a0_3 a0_4 a0_5 a0_6 a0_7 = some r) :
  Calls Tryd.prog 41 #[.agg #[.int .u8 a0_0, .int .i64 a0_1, .slice A0_2 l0_2.length c0_2, .string a0_3, .int .u32 a0_4, .int .i64 a0_5, .int .u64 a0_6, .int .u64 a0_7]] w fun e w' => e = .returned (.string r) ∧ Below w.heap.size w w' := by
 have hu40 := Tryd.underlying40
 have hu110 := Tryd.underlying110
 have HR0_2 := Aside0.mk hr0_2
 have HC0_2 := Aside0.mk hc0_2
 clear hr0_2 hc0_2
 have HB := Aside0.mk (Below.refl w.heap.size w)
 have H : (if a0_0 = 0 then (cloakroomref14_line.j0 k (⟨#[]⟩ : ByteArray) a0_0 a0_1 l0_2 a0_3 a0_4 a0_5 a0_6 a0_7) else (if a0_0 = 1 then (cloakroomref14_line.j0 k (⟨#[103, 101, 116]⟩ : ByteArray) a0_0 a0_1 l0_2 a0_3 a0_4 a0_5 a0_6 a0_7) else (if a0_0 = 2 then (cloakroomref14_line.j0 k (⟨#[115, 101, 116]⟩ : ByteArray) a0_0 a0_1 l0_2 a0_3 a0_4 a0_5 a0_6 a0_7) else (if a0_0 = 3 then (cloakroomref14_line.j0 k (⟨#[97, 100, 100]⟩ : ByteArray) a0_0 a0_1 l0_2 a0_3 a0_4 a0_5 a0_6 a0_7) else (if a0_0 = 4 then (cloakroomref14_line.j0 k (⟨#[114, 101, 112, 108, 97, 99, 101]⟩ : ByteArray) a0_0 a0_1 l0_2 a0_3 a0_4 a0_5 a0_6 a0_7) else (if a0_0 = 5 then (cloakroomref14_line.j0 k (⟨#[99, 97, 115]⟩ : ByteArray) a0_0 a0_1 l0_2 a0_3 a0_4 a0_5 a0_6 a0_7) else (if a0_0 = 6 then (cloakroomref14_line.j0 k (⟨#[105, 110, 99, 114]⟩ : ByteArray) a0_0 a0_1 l0_2 a0_3 a0_4 a0_5 a0_6 a0_7) else (if a0_0 = 7 then (cloakroomref14_line.j0 k (⟨#[100, 101, 99, 114]⟩ : ByteArray) a0_0 a0_1 l0_2 a0_3 a0_4 a0_5 a0_6 a0_7) else (if a0_0 = 8 then (cloakroomref14_line.j0 k (⟨#[97, 112, 112, 101, 110, 100]⟩ : ByteArray) a0_0 a0_1 l0_2 a0_3 a0_4 a0_5 a0_6 a0_7) else (if a0_0 = 9 then (cloakroomref14_line.j0 k (⟨#[116, 111, 117, 99, 104]⟩ : ByteArray) a0_0 a0_1 l0_2 a0_3 a0_4 a0_5 a0_6 a0_7) else (if a0_0 = 10 then (cloakroomref14_line.j0 k (⟨#[100, 101, 108, 101, 116, 101]⟩ : ByteArray) a0_0 a0_1 l0_2 a0_3 a0_4 a0_5 a0_6 a0_7) else (if a0_0 = 11 then (cloakroomref14_line.j0 k (⟨#[102, 108, 117, 115, 104]⟩ : ByteArray) a0_0 a0_1 l0_2 a0_3 a0_4 a0_5 a0_6 a0_7) else (none))))))))))))) = some r := h
 clear h
 have HC2 := Aside0.mk H
 clear H
 go_enter Tryd.func41, Tryd.ntmps41
 go_upto_region 2 with (first | ((with_reducible refine gate_dst (N := 1) rfl ?_); refine box_event ?hg (N := 1) ?hd (cs := #[.int .u8 a0_0, .int .i64 a0_1, .slice A0_2 l0_2.length c0_2, .string a0_3, .int .u32 a0_4, .int .i64 a0_5, .int .u64 a0_6, .int .u64 a0_7]) (t := 40) ?hr ?_; (case hd => rfl); (case hg => rfl); (case hr => first | (go_simp; done) | (go_simp; rfl)); intro gb311 hg w3 hbox hb; have n0_ := Aside0.mk (below_step t30_7 hb); have n1_ := Aside0.mk (hbox); have n2_ := Aside0.mk ((t30_14 : w.heap.size ≤ gb311)); have n3_ := Aside0.mk ((t30_14 : w.heap.size ≤ gb311)); clear HB; have HB := n0_; have BK311 := n1_; have GW311 := n2_; have GE311 := n3_; clear n0_ n1_ n2_ n3_; clear hb hbox hg) | ((with_reducible refine gate_dst (N := 3) rfl ?_); refine box_event ?hg (N := 3) ?hd (cs := #[.string (⟨#[]⟩ : ByteArray), .string (⟨#[]⟩ : ByteArray), .string (⟨#[]⟩ : ByteArray), .string (⟨#[]⟩ : ByteArray), .string (⟨#[]⟩ : ByteArray), .string (⟨#[]⟩ : ByteArray), .string (⟨#[]⟩ : ByteArray), .string (⟨#[]⟩ : ByteArray), .string (⟨#[]⟩ : ByteArray), .string (⟨#[]⟩ : ByteArray), .string (⟨#[]⟩ : ByteArray), .string (⟨#[]⟩ : ByteArray)]) (t := 110) ?hr ?_; (case hd => rfl); (case hg => rfl); (case hr => first | (go_simp; done) | (go_simp; rfl)); intro gb312 hg w4 hbox hb; have n0_ := Aside0.mk (blk_below (g := gb311) (o := .cells #[.int .u8 a0_0, .int .i64 a0_1, .slice A0_2 l0_2.length c0_2, .string a0_3, .int .u32 a0_4, .int .i64 a0_5, .int .u64 a0_6, .int .u64 a0_7] 40 (0, 0)) t30_3 hb); have n1_ := Aside0.mk (below_step t30_6 hb); have n2_ := Aside0.mk (hbox); have n3_ := Aside0.mk ((t30_15 : w.heap.size ≤ gb312)); have n4_ := Aside0.mk ((t30_15 : w.heap.size ≤ gb312)); have n5_ := Aside0.mk ((t30_9 : gb311 ≠ gb312)); have n6_ := Aside0.mk ((t30_10 : gb312 ≠ gb311)); clear BK311; clear HB; have BK311 := n0_; have HB := n1_; have BK312 := n2_; have GW312 := n3_; have GE312 := n4_; have NB311_312 := n5_; have NB312_311 := n6_; clear n0_ n1_ n2_ n3_ n4_ n5_ n6_; clear hb hbox hg; have hnb5 := NB312_311.out; have hnc5 := NB311_312.out; have hz6 := blk12 BK312.out))
 repeat (go_quiet (first | ((with_reducible refine gate_dst (N := 1) rfl ?_); refine box_event ?hg (N := 1) ?hd (cs := #[.int .u8 a0_0, .int .i64 a0_1, .slice A0_2 l0_2.length c0_2, .string a0_3, .int .u32 a0_4, .int .i64 a0_5, .int .u64 a0_6, .int .u64 a0_7]) (t := 40) ?hr ?_; (case hd => rfl); (case hg => rfl); (case hr => first | (go_simp; done) | (go_simp; rfl)); intro gb311 hg w3 hbox hb; have n0_ := Aside0.mk (below_step t30_7 hb); have n1_ := Aside0.mk (hbox); have n2_ := Aside0.mk ((t30_14 : w.heap.size ≤ gb311)); have n3_ := Aside0.mk ((t30_14 : w.heap.size ≤ gb311)); clear HB; have HB := n0_; have BK311 := n1_; have GW311 := n2_; have GE311 := n3_; clear n0_ n1_ n2_ n3_; clear hb hbox hg) | ((with_reducible refine gate_dst (N := 3) rfl ?_); refine box_event ?hg (N := 3) ?hd (cs := #[.string (⟨#[]⟩ : ByteArray), .string (⟨#[]⟩ : ByteArray), .string (⟨#[]⟩ : ByteArray), .string (⟨#[]⟩ : ByteArray), .string (⟨#[]⟩ : ByteArray), .string (⟨#[]⟩ : ByteArray), .string (⟨#[]⟩ : ByteArray), .string (⟨#[]⟩ : ByteArray), .string (⟨#[]⟩ : ByteArray), .string (⟨#[]⟩ : ByteArray), .string (⟨#[]⟩ : ByteArray), .string (⟨#[]⟩ : ByteArray)]) (t := 110) ?hr ?_; (case hd => rfl); (case hg => rfl); (case hr => first | (go_simp; done) | (go_simp; rfl)); intro gb312 hg w4 hbox hb; have n0_ := Aside0.mk (blk_below (g := gb311) (o := .cells #[.int .u8 a0_0, .int .i64 a0_1, .slice A0_2 l0_2.length c0_2, .string a0_3, .int .u32 a0_4, .int .i64 a0_5, .int .u64 a0_6, .int .u64 a0_7] 40 (0, 0)) t30_3 hb); have n1_ := Aside0.mk (below_step t30_6 hb); have n2_ := Aside0.mk (hbox); have n3_ := Aside0.mk ((t30_15 : w.heap.size ≤ gb312)); have n4_ := Aside0.mk ((t30_15 : w.heap.size ≤ gb312)); have n5_ := Aside0.mk ((t30_9 : gb311 ≠ gb312)); have n6_ := Aside0.mk ((t30_10 : gb312 ≠ gb311)); clear BK311; clear HB; have BK311 := n0_; have HB := n1_; have BK312 := n2_; have GW312 := n3_; have GE312 := n4_; have NB311_312 := n5_; have NB312_311 := n6_; clear n0_ n1_ n2_ n3_ n4_ n5_ n6_; clear hb hbox hg; have hnb5 := NB312_311.out; have hnc5 := NB311_312.out; have hz6 := blk12 BK312.out)); go_upto_region 2 with (first | ((with_reducible refine gate_dst (N := 1) rfl ?_); refine box_event ?hg (N := 1) ?hd (cs := #[.int .u8 a0_0, .int .i64 a0_1, .slice A0_2 l0_2.length c0_2, .string a0_3, .int .u32 a0_4, .int .i64 a0_5, .int .u64 a0_6, .int .u64 a0_7]) (t := 40) ?hr ?_; (case hd => rfl); (case hg => rfl); (case hr => first | (go_simp; done) | (go_simp; rfl)); intro gb311 hg w3 hbox hb; have n0_ := Aside0.mk (below_step t30_7 hb); have n1_ := Aside0.mk (hbox); have n2_ := Aside0.mk ((t30_14 : w.heap.size ≤ gb311)); have n3_ := Aside0.mk ((t30_14 : w.heap.size ≤ gb311)); clear HB; have HB := n0_; have BK311 := n1_; have GW311 := n2_; have GE311 := n3_; clear n0_ n1_ n2_ n3_; clear hb hbox hg) | ((with_reducible refine gate_dst (N := 3) rfl ?_); refine box_event ?hg (N := 3) ?hd (cs := #[.string (⟨#[]⟩ : ByteArray), .string (⟨#[]⟩ : ByteArray), .string (⟨#[]⟩ : ByteArray), .string (⟨#[]⟩ : ByteArray), .string (⟨#[]⟩ : ByteArray), .string (⟨#[]⟩ : ByteArray), .string (⟨#[]⟩ : ByteArray), .string (⟨#[]⟩ : ByteArray), .string (⟨#[]⟩ : ByteArray), .string (⟨#[]⟩ : ByteArray), .string (⟨#[]⟩ : ByteArray), .string (⟨#[]⟩ : ByteArray)]) (t := 110) ?hr ?_; (case hd => rfl); (case hg => rfl); (case hr => first | (go_simp; done) | (go_simp; rfl)); intro gb312 hg w4 hbox hb; have n0_ := Aside0.mk (blk_below (g := gb311) (o := .cells #[.int .u8 a0_0, .int .i64 a0_1, .slice A0_2 l0_2.length c0_2, .string a0_3, .int .u32 a0_4, .int .i64 a0_5, .int .u64 a0_6, .int .u64 a0_7] 40 (0, 0)) t30_3 hb); have n1_ := Aside0.mk (below_step t30_6 hb); have n2_ := Aside0.mk (hbox); have n3_ := Aside0.mk ((t30_15 : w.heap.size ≤ gb312)); have n4_ := Aside0.mk ((t30_15 : w.heap.size ≤ gb312)); have n5_ := Aside0.mk ((t30_9 : gb311 ≠ gb312)); have n6_ := Aside0.mk ((t30_10 : gb312 ≠ gb311)); clear BK311; clear HB; have BK311 := n0_; have HB := n1_; have BK312 := n2_; have GW312 := n3_; have GE312 := n4_; have NB311_312 := n5_; have NB312_311 := n6_; clear n0_ n1_ n2_ n3_ n4_ n5_ n6_; clear hb hbox hg; have hnb5 := NB312_311.out; have hnc5 := NB311_312.out; have hz6 := blk12 BK312.out)))
 (try simp only [Act.put, List.setIfInBounds_toArray, List.set_cons_zero, List.set_cons_succ])
 go_cut [4] (fun v4 wc => ∃ (kq : Nat) (x4_1 : ByteArray), v4 = .string x4_1 ∧ Aside0 (cloakroomref14_line.j0 kq x4_1 a0_0 a0_1 l0_2 a0_3 a0_4 a0_5 a0_6 a0_7 = some r) ∧ Aside0 (kq ≤ k) ∧ Aside0 (wc.heap[gb311]? = some (.cells #[.int .u8 a0_0, .int .i64 a0_1, (.slice A0_2 l0_2.length c0_2), .string a0_3, .int .u32 a0_4, .int .i64 a0_5, .int .u64 a0_6, .int .u64 a0_7] 40 (0, 0))) ∧ Aside0 (wc.heap[gb312]? = some (.cells #[.string (⟨#[]⟩ : ByteArray), .string (⟨#[103, 101, 116]⟩ : ByteArray), .string (⟨#[115, 101, 116]⟩ : ByteArray), .string (⟨#[97, 100, 100]⟩ : ByteArray), .string (⟨#[114, 101, 112, 108, 97, 99, 101]⟩ : ByteArray), .string (⟨#[99, 97, 115]⟩ : ByteArray), .string (⟨#[105, 110, 99, 114]⟩ : ByteArray), .string (⟨#[100, 101, 99, 114]⟩ : ByteArray), .string (⟨#[97, 112, 112, 101, 110, 100]⟩ : ByteArray), .string (⟨#[116, 111, 117, 99, 104]⟩ : ByteArray), .string (⟨#[100, 101, 108, 101, 116, 101]⟩ : ByteArray), .string (⟨#[102, 108, 117, 115, 104]⟩ : ByteArray)] 110 (0, 0))) ∧ Aside0 (Below w.heap.size w wc))
 case first =>
  have H := HC2.out
  clear HC2
  by_cases c7 : a0_0 = 0
  ·rw [if_pos c7] at H
   have c7b0 : (a0_0 == 0) = true := beq_iff_eq.mpr c7
   have c7b1 : (a0_0 != 0) = false := bne_eq_false_iff_eq.mpr c7
   have c7e := c7
   clear c7
   (first | rw [c7b0] | (simp only [i64_w, i32_w]; rw [c7b0]) | rw [c7b1] | skip)
   have H' := Aside0.mk H
   clear H
   have hnb8 := NB311_312.out
   have hnc8 := NB312_311.out
   have hz9 := blk8 BK311.out
   have hz10 := blk12 BK312.out
   go_wp2
   repeat (go_quiet (fail); try go_wp2)
   go_meet
   case rel => exact ⟨_, ((⟨#[]⟩ : ByteArray)), t30_4, H', ⟨t30_11⟩, ⟨t30_1⟩, ⟨t30_0⟩, ⟨t30_2⟩⟩
  ·rw [if_neg c7] at H
   have c7b0 : (a0_0 == 0) = false := beq_eq_false_iff_ne.mpr c7
   have c7b1 : (a0_0 != 0) = true := bne_iff_ne.mpr c7
   (first | rw [c7b0] | (simp only [i64_w, i32_w]; rw [c7b0]) | rw [c7b1] | skip)
   by_cases c11 : a0_0 = 1
   ·rw [if_pos c11] at H
    have c11b0 : (a0_0 == 1) = true := beq_iff_eq.mpr c11
    have c11b1 : (a0_0 != 1) = false := bne_eq_false_iff_eq.mpr c11
    have c11e := c11
    clear c11
    have H' := Aside0.mk H
    clear H
    have hnb12 := NB311_312.out
    have hnc12 := NB312_311.out
    have hz13 := blk8 BK311.out
    have hz14 := blk12 BK312.out
    go_wp2
    repeat (go_quiet (fail); try go_wp2)
    go_meet
    case rel => exact ⟨_, ((⟨#[103, 101, 116]⟩ : ByteArray)), t30_4, H', ⟨t30_11⟩, ⟨t30_1⟩, ⟨t30_0⟩, ⟨t30_2⟩⟩
   ·rw [if_neg c11] at H
    have c11b0 : (a0_0 == 1) = false := beq_eq_false_iff_ne.mpr c11
    have c11b1 : (a0_0 != 1) = true := bne_iff_ne.mpr c11
    by_cases c15 : a0_0 = 2
    ·rw [if_pos c15] at H
     have c15b0 : (a0_0 == 2) = true := beq_iff_eq.mpr c15
     have c15b1 : (a0_0 != 2) = false := bne_eq_false_iff_eq.mpr c15
     have c15e := c15
     clear c15
     have H' := Aside0.mk H
     clear H
     have hnb16 := NB311_312.out
     have hnc16 := NB312_311.out
     have hz17 := blk8 BK311.out
     have hz18 := blk12 BK312.out
     go_wp2
     repeat (go_quiet (fail); try go_wp2)
     go_meet
     case rel => exact ⟨_, ((⟨#[115, 101, 116]⟩ : ByteArray)), t30_4, H', ⟨t30_11⟩, ⟨t30_1⟩, ⟨t30_0⟩, ⟨t30_2⟩⟩
    ·rw [if_neg c15] at H
     have c15b0 : (a0_0 == 2) = false := beq_eq_false_iff_ne.mpr c15
     have c15b1 : (a0_0 != 2) = true := bne_iff_ne.mpr c15
     by_cases c19 : a0_0 = 3
     ·rw [if_pos c19] at H
      have c19b0 : (a0_0 == 3) = true := beq_iff_eq.mpr c19
      have c19b1 : (a0_0 != 3) = false := bne_eq_false_iff_eq.mpr c19
      have c19e := c19
      clear c19
      have H' := Aside0.mk H
      clear H
      have hnb20 := NB311_312.out
      have hnc20 := NB312_311.out
      have hz21 := blk8 BK311.out
      have hz22 := blk12 BK312.out
      go_wp2
      repeat (go_quiet (fail); try go_wp2)
      go_meet
      case rel => exact ⟨_, ((⟨#[97, 100, 100]⟩ : ByteArray)), t30_4, H', ⟨t30_11⟩, ⟨t30_1⟩, ⟨t30_0⟩, ⟨t30_2⟩⟩
     ·rw [if_neg c19] at H
      have c19b0 : (a0_0 == 3) = false := beq_eq_false_iff_ne.mpr c19
      have c19b1 : (a0_0 != 3) = true := bne_iff_ne.mpr c19
      by_cases c23 : a0_0 = 4
      ·rw [if_pos c23] at H
       have c23b0 : (a0_0 == 4) = true := beq_iff_eq.mpr c23
       have c23b1 : (a0_0 != 4) = false := bne_eq_false_iff_eq.mpr c23
       have c23e := c23
       clear c23
       have H' := Aside0.mk H
       clear H
       have hnb24 := NB311_312.out
       have hnc24 := NB312_311.out
       have hz25 := blk8 BK311.out
       have hz26 := blk12 BK312.out
       go_wp2
       repeat (go_quiet (fail); try go_wp2)
       go_meet
       case rel => exact ⟨_, ((⟨#[114, 101, 112, 108, 97, 99, 101]⟩ : ByteArray)), t30_4, H', ⟨t30_11⟩, ⟨t30_1⟩, ⟨t30_0⟩, ⟨t30_2⟩⟩
      ·rw [if_neg c23] at H
       have c23b0 : (a0_0 == 4) = false := beq_eq_false_iff_ne.mpr c23
       have c23b1 : (a0_0 != 4) = true := bne_iff_ne.mpr c23
       by_cases c27 : a0_0 = 5
       ·rw [if_pos c27] at H
        have c27b0 : (a0_0 == 5) = true := beq_iff_eq.mpr c27
        have c27b1 : (a0_0 != 5) = false := bne_eq_false_iff_eq.mpr c27
        have c27e := c27
        clear c27
        have H' := Aside0.mk H
        clear H
        have hnb28 := NB311_312.out
        have hnc28 := NB312_311.out
        have hz29 := blk8 BK311.out
        have hz30 := blk12 BK312.out
        go_wp2
        repeat (go_quiet (fail); try go_wp2)
        go_meet
        case rel => exact ⟨_, ((⟨#[99, 97, 115]⟩ : ByteArray)), t30_4, H', ⟨t30_11⟩, ⟨t30_1⟩, ⟨t30_0⟩, ⟨t30_2⟩⟩
       ·rw [if_neg c27] at H
        have c27b0 : (a0_0 == 5) = false := beq_eq_false_iff_ne.mpr c27
        have c27b1 : (a0_0 != 5) = true := bne_iff_ne.mpr c27
        by_cases c31 : a0_0 = 6
        ·rw [if_pos c31] at H
         have c31b0 : (a0_0 == 6) = true := beq_iff_eq.mpr c31
         have c31b1 : (a0_0 != 6) = false := bne_eq_false_iff_eq.mpr c31
         have c31e := c31
         clear c31
         have H' := Aside0.mk H
         clear H
         have hnb32 := NB311_312.out
         have hnc32 := NB312_311.out
         have hz33 := blk8 BK311.out
         have hz34 := blk12 BK312.out
         go_wp2
         repeat (go_quiet (fail); try go_wp2)
         go_meet
         case rel => exact ⟨_, ((⟨#[105, 110, 99, 114]⟩ : ByteArray)), t30_4, H', ⟨t30_11⟩, ⟨t30_1⟩, ⟨t30_0⟩, ⟨t30_2⟩⟩
        ·rw [if_neg c31] at H
         have c31b0 : (a0_0 == 6) = false := beq_eq_false_iff_ne.mpr c31
         have c31b1 : (a0_0 != 6) = true := bne_iff_ne.mpr c31
         by_cases c35 : a0_0 = 7
         ·rw [if_pos c35] at H
          have c35b0 : (a0_0 == 7) = true := beq_iff_eq.mpr c35
          have c35b1 : (a0_0 != 7) = false := bne_eq_false_iff_eq.mpr c35
          have c35e := c35
          clear c35
          have H' := Aside0.mk H
          clear H
          have hnb36 := NB311_312.out
          have hnc36 := NB312_311.out
          have hz37 := blk8 BK311.out
          have hz38 := blk12 BK312.out
          go_wp2
          repeat (go_quiet (fail); try go_wp2)
          go_meet
          case rel => exact ⟨_, ((⟨#[100, 101, 99, 114]⟩ : ByteArray)), t30_4, H', ⟨t30_11⟩, ⟨t30_1⟩, ⟨t30_0⟩, ⟨t30_2⟩⟩
         ·rw [if_neg c35] at H
          have c35b0 : (a0_0 == 7) = false := beq_eq_false_iff_ne.mpr c35
          have c35b1 : (a0_0 != 7) = true := bne_iff_ne.mpr c35
          by_cases c39 : a0_0 = 8
          ·rw [if_pos c39] at H
           have c39b0 : (a0_0 == 8) = true := beq_iff_eq.mpr c39
           have c39b1 : (a0_0 != 8) = false := bne_eq_false_iff_eq.mpr c39
           have c39e := c39
           clear c39
           have H' := Aside0.mk H
           clear H
           have hnb40 := NB311_312.out
           have hnc40 := NB312_311.out
           have hz41 := blk8 BK311.out
           have hz42 := blk12 BK312.out
           go_wp2
           repeat (go_quiet (fail); try go_wp2)
           go_meet
           case rel => exact ⟨_, ((⟨#[97, 112, 112, 101, 110, 100]⟩ : ByteArray)), t30_4, H', ⟨t30_11⟩, ⟨t30_1⟩, ⟨t30_0⟩, ⟨t30_2⟩⟩
          ·rw [if_neg c39] at H
           have c39b0 : (a0_0 == 8) = false := beq_eq_false_iff_ne.mpr c39
           have c39b1 : (a0_0 != 8) = true := bne_iff_ne.mpr c39
           by_cases c43 : a0_0 = 9
           ·rw [if_pos c43] at H
            have c43b0 : (a0_0 == 9) = true := beq_iff_eq.mpr c43
            have c43b1 : (a0_0 != 9) = false := bne_eq_false_iff_eq.mpr c43
            have c43e := c43
            clear c43
            have H' := Aside0.mk H
            clear H
            have hnb44 := NB311_312.out
            have hnc44 := NB312_311.out
            have hz45 := blk8 BK311.out
            have hz46 := blk12 BK312.out
            go_wp2
            repeat (go_quiet (fail); try go_wp2)
            go_meet
            case rel => exact ⟨_, ((⟨#[116, 111, 117, 99, 104]⟩ : ByteArray)), t30_4, H', ⟨t30_11⟩, ⟨t30_1⟩, ⟨t30_0⟩, ⟨t30_2⟩⟩
           ·rw [if_neg c43] at H
            have c43b0 : (a0_0 == 9) = false := beq_eq_false_iff_ne.mpr c43
            have c43b1 : (a0_0 != 9) = true := bne_iff_ne.mpr c43
            by_cases c47 : a0_0 = 10
            ·rw [if_pos c47] at H
             have c47b0 : (a0_0 == 10) = true := beq_iff_eq.mpr c47
             have c47b1 : (a0_0 != 10) = false := bne_eq_false_iff_eq.mpr c47
             have c47e := c47
             clear c47
             have H' := Aside0.mk H
             clear H
             have hnb48 := NB311_312.out
             have hnc48 := NB312_311.out
             have hz49 := blk8 BK311.out
             have hz50 := blk12 BK312.out
             go_wp2
             repeat (go_quiet (fail); try go_wp2)
             go_meet
             case rel => exact ⟨_, ((⟨#[100, 101, 108, 101, 116, 101]⟩ : ByteArray)), t30_4, H', ⟨t30_11⟩, ⟨t30_1⟩, ⟨t30_0⟩, ⟨t30_2⟩⟩
            ·rw [if_neg c47] at H
             have c47b0 : (a0_0 == 10) = false := beq_eq_false_iff_ne.mpr c47
             have c47b1 : (a0_0 != 10) = true := bne_iff_ne.mpr c47
             by_cases c51 : a0_0 = 11
             ·rw [if_pos c51] at H
              have c51b0 : (a0_0 == 11) = true := beq_iff_eq.mpr c51
              have c51b1 : (a0_0 != 11) = false := bne_eq_false_iff_eq.mpr c51
              have c51e := c51
              clear c51
              have H' := Aside0.mk H
              clear H
              have hnb52 := NB311_312.out
              have hnc52 := NB312_311.out
              have hz53 := blk8 BK311.out
              have hz54 := blk12 BK312.out
              go_wp2
              repeat (go_quiet (fail); try go_wp2)
              go_meet
              case rel => exact ⟨_, ((⟨#[102, 108, 117, 115, 104]⟩ : ByteArray)), t30_4, H', ⟨t30_11⟩, ⟨t30_1⟩, ⟨t30_0⟩, ⟨t30_2⟩⟩
             ·rw [if_neg c51] at H
              exact absurd H (by simp)
 case rest => as_aux_lemma =>
  clear HC2
  obtain ⟨kq, x4_1, rfl, HA, HJ1, BK311, BK312, HB⟩ := hcut
  cases kq with
  | zero => exact absurd HA.out (by simp [cloakroomref14_line.j0])
  | succ kj1 =>
   have H := HA.out
   clear HA
   simp only [cloakroomref14_line.j0] at H
   have H' := Aside0.mk H
   clear H
   go_wp2
   repeat (go_quiet (fail); try go_wp2)
   go_loopg [4, 5] kj1 (fun kq v4 v5 w' => ∃ (x4_2 : ByteArray) (x5_2 : Int), v4 = .string x4_2 ∧ v5 = .int .i64 x5_2 ∧ Aside0 (cloakroomref14_line.l0 kq x4_2 x5_2 a0_0 a0_1 l0_2 a0_3 a0_4 a0_5 a0_6 a0_7 = some r) ∧ Aside0 (kq ≤ kj1) ∧ Aside0 (w'.heap[gb311]? = some (.cells #[.int .u8 a0_0, .int .i64 a0_1, (.slice A0_2 l0_2.length c0_2), .string a0_3, .int .u32 a0_4, .int .i64 a0_5, .int .u64 a0_6, .int .u64 a0_7] 40 (0, 0))) ∧ Aside0 (w'.heap[gb312]? = some (.cells #[.string (⟨#[]⟩ : ByteArray), .string (⟨#[103, 101, 116]⟩ : ByteArray), .string (⟨#[115, 101, 116]⟩ : ByteArray), .string (⟨#[97, 100, 100]⟩ : ByteArray), .string (⟨#[114, 101, 112, 108, 97, 99, 101]⟩ : ByteArray), .string (⟨#[99, 97, 115]⟩ : ByteArray), .string (⟨#[105, 110, 99, 114]⟩ : ByteArray), .string (⟨#[100, 101, 99, 114]⟩ : ByteArray), .string (⟨#[97, 112, 112, 101, 110, 100]⟩ : ByteArray), .string (⟨#[116, 111, 117, 99, 104]⟩ : ByteArray), .string (⟨#[100, 101, 108, 101, 116, 101]⟩ : ByteArray), .string (⟨#[102, 108, 117, 115, 104]⟩ : ByteArray)] 110 (0, 0))) ∧ Aside0 (Below w.heap.size w w'))
   case atStart => exact ⟨(x4_1), (0), t30_4, t30_4, H', ⟨Nat.le_refl _⟩, ⟨t30_3⟩, ⟨t30_5⟩, ⟨t30_2⟩⟩
   case round =>
    clear H'
    obtain ⟨x4_2, x5_2, rfl, rfl, HA, HK2, BK311, BK312, HB⟩ := hrel
    cases gk with
    | zero => exact absurd HA.out (by simp [cloakroomref14_line.l0])
    | succ k2 =>
     have H := HA.out
     clear HA
     simp only [cloakroomref14_line.l0] at H
     by_cases c55 : x5_2 < (l0_2.length : Int)
     ·rw [if_pos c55] at H
      have c55b0 : decide (x5_2 < (l0_2.length : Int)) = true := decide_eq_true c55
      clear c55
      by_cases c56 : x4_2.size + 1 ≤ 9223372036854775807
      ·rw [if_pos c56] at H
       have c56b0 := eq_true c56
       have c56b1 : decide (x4_2.size + 1 ≤ 9223372036854775807) = true := decide_eq_true c56
       try have c56b2 : (9223372036854775807 < x4_2.size + 1) = False := eq_false (Nat.not_lt.2 c56)
       try (have c56b3 := c56b2; simp only [ByteArray.size_append, x_size_lit, List.size_toArray, List.length_cons, List.length_nil, Nat.zero_add, Nat.reduceAdd] at c56b3)
       by_cases c57 : 0 ≤ x5_2
       ·rw [if_pos c57] at H
        have c57b0 : decide (0 ≤ x5_2) = true := decide_eq_true c57
        clear c57
        by_cases c58 : (x4_2 ++ (⟨#[32]⟩ : ByteArray)).size + (rdOf ByteArray.empty l0_2 x5_2).size ≤ 9223372036854775807
        ·rw [if_pos c58] at H
         have c58b0 := eq_true c58
         have c58b1 : decide ((x4_2 ++ (⟨#[32]⟩ : ByteArray)).size + (rdOf ByteArray.empty l0_2 x5_2).size ≤ 9223372036854775807) = true := decide_eq_true c58
         try have c58b2 : (9223372036854775807 < (x4_2 ++ (⟨#[32]⟩ : ByteArray)).size + (rdOf ByteArray.empty l0_2 x5_2).size) = False := eq_false (Nat.not_lt.2 c58)
         try (have c58b3 := c58b2; simp only [ByteArray.size_append, x_size_lit, List.size_toArray, List.length_cons, List.length_nil, Nat.zero_add, Nat.reduceAdd] at c58b3)
         have H' := Aside0.mk H
         clear H
         have hnb59 := NB311_312.out
         have hnc59 := NB312_311.out
         have hz60 := blk8 BK311.out
         have p313 : 0 ≤ (x5_2 : Int) := of_decide_eq_true (by first | (with_reducible assumption) | assumption)
         have q313 : x5_2 < (l0_2.length : Int) := of_decide_eq_true (by first | (with_reducible assumption) | assumption)
         obtain ⟨ad313, e313, hx313_0⟩ := Kd.at_string HR0_2.out x5_2 p313 q313
         cases e313
         replace hx313_0 := (HB.out.cell (World.block_lt_of_cell? w _ hx313_0)).trans hx313_0
         replace p313 := eq_true p313
         replace q313 := eq_true q313
         go_wp2
         repeat (go_quiet (fail); try go_wp2)
         go_roundg k2
         case measure => have := HJ1.out; have := HK2.out; omega
         case rel => exact ⟨((x4_2 ++ (⟨#[32]⟩ : ByteArray)) ++ (rdOf ByteArray.empty l0_2 x5_2)), (wrap64 (x5_2 + 1)), t30_4, t30_4, H', ⟨by have := HJ1.out; have := HK2.out; omega⟩, ⟨t30_3⟩, ⟨t30_5⟩, ⟨t30_2⟩⟩
        ·rw [if_neg c58] at H
         exact absurd H (by simp)
       ·rw [if_neg c57] at H
        exact absurd H (by simp)
      ·rw [if_neg c56] at H
       exact absurd H (by simp)
     ·rw [if_neg c55] at H
      have c55b0 : decide (x5_2 < (l0_2.length : Int)) = false := decide_eq_false c55
      clear c55
      have HC61 := Aside0.mk H
      clear H
      have hnb62 := NB311_312.out
      have hnc62 := NB312_311.out
      have hz63 := blk8 BK311.out
      go_upto_region 7 with (fail)
      repeat (go_quiet (fail); go_upto_region 7 with (fail))
      go_cut [33] (fun v33 wc => ∃ (kq : Nat) (x33_60 : Bool), v33 = .bool x33_60 ∧ Aside0 (cloakroomref14_line.j2 kq x4_2 x33_60 a0_0 a0_1 l0_2 a0_3 a0_4 a0_5 a0_6 a0_7 = some r) ∧ Aside0 (kq ≤ k2) ∧ Aside0 (wc.heap[gb311]? = some (.cells #[.int .u8 a0_0, .int .i64 a0_1, (.slice A0_2 l0_2.length c0_2), .string a0_3, .int .u32 a0_4, .int .i64 a0_5, .int .u64 a0_6, .int .u64 a0_7] 40 (0, 0))) ∧ Aside0 (wc.heap[gb312]? = some (.cells #[.string (⟨#[]⟩ : ByteArray), .string (⟨#[103, 101, 116]⟩ : ByteArray), .string (⟨#[115, 101, 116]⟩ : ByteArray), .string (⟨#[97, 100, 100]⟩ : ByteArray), .string (⟨#[114, 101, 112, 108, 97, 99, 101]⟩ : ByteArray), .string (⟨#[99, 97, 115]⟩ : ByteArray), .string (⟨#[105, 110, 99, 114]⟩ : ByteArray), .string (⟨#[100, 101, 99, 114]⟩ : ByteArray), .string (⟨#[97, 112, 112, 101, 110, 100]⟩ : ByteArray), .string (⟨#[116, 111, 117, 99, 104]⟩ : ByteArray), .string (⟨#[100, 101, 108, 101, 116, 101]⟩ : ByteArray), .string (⟨#[102, 108, 117, 115, 104]⟩ : ByteArray)] 110 (0, 0))) ∧ Aside0 (Below w.heap.size w wc))
      case first =>
       have H := HC61.out
       clear HC61
       by_cases c64 : a0_0 ≥ 2
       ·rw [if_pos c64] at H
        have c64b0 : decide (2 ≤ a0_0) = true := decide_eq_true c64
        clear c64
        (first | rw [c64b0] | (simp only [i64_w, i32_w]; rw [c64b0]) | rw [c64b1] | skip)
        have H' := Aside0.mk H
        clear H
        have hnb65 := NB311_312.out
        have hnc65 := NB312_311.out
        have hz66 := blk8 BK311.out
        go_wp2
        repeat (go_quiet (fail); try go_wp2)
        go_meet
        case rel => exact ⟨_, (decide (a0_0 ≤ 5)), t30_4, H', ⟨by have := HJ1.out; have := HK2.out; first | omega | exact Nat.le_refl _⟩, ⟨t30_3⟩, ⟨t30_5⟩, ⟨t30_2⟩⟩
       ·rw [if_neg c64] at H
        have c64b0 : decide (2 ≤ a0_0) = false := decide_eq_false c64
        clear c64
        (first | rw [c64b0] | (simp only [i64_w, i32_w]; rw [c64b0]) | rw [c64b1] | skip)
        have H' := Aside0.mk H
        clear H
        have hnb67 := NB311_312.out
        have hnc67 := NB312_311.out
        have hz68 := blk8 BK311.out
        go_wp2
        repeat (go_quiet (fail); try go_wp2)
        go_meet
        case rel => exact ⟨_, (false), t30_4, H', ⟨by have := HJ1.out; have := HK2.out; first | omega | exact Nat.le_refl _⟩, ⟨t30_3⟩, ⟨t30_5⟩, ⟨t30_2⟩⟩
      case rest => as_aux_lemma =>
       clear HC61
       (try clear c55); (try clear c55b0); (try clear hz63)
       obtain ⟨kq, x33_60, rfl, HA, HJ60, BK311, BK312, HB⟩ := hcut
       cases kq with
       | zero => exact absurd HA.out (by simp [cloakroomref14_line.j2])
       | succ kj60 =>
        have H := HA.out
        clear HA
        simp only [cloakroomref14_line.j2] at H
        have HC69 := Aside0.mk H
        clear H
        go_upto_if 33 with (fail)
        repeat (go_quiet (fail); go_upto_if 33 with (fail))
        go_cut [4] (fun v4 wc => ∃ (kq : Nat) (x4_68 : ByteArray), v4 = .string x4_68 ∧ Aside0 (cloakroomref14_line.j3 kq x4_68 a0_0 a0_1 l0_2 a0_3 a0_4 a0_5 a0_6 a0_7 = some r) ∧ Aside0 (kq ≤ kj60) ∧ Aside0 (wc.heap[gb311]? = some (.cells #[.int .u8 a0_0, .int .i64 a0_1, (.slice A0_2 l0_2.length c0_2), .string a0_3, .int .u32 a0_4, .int .i64 a0_5, .int .u64 a0_6, .int .u64 a0_7] 40 (0, 0))) ∧ Aside0 (wc.heap[gb312]? = some (.cells #[.string (⟨#[]⟩ : ByteArray), .string (⟨#[103, 101, 116]⟩ : ByteArray), .string (⟨#[115, 101, 116]⟩ : ByteArray), .string (⟨#[97, 100, 100]⟩ : ByteArray), .string (⟨#[114, 101, 112, 108, 97, 99, 101]⟩ : ByteArray), .string (⟨#[99, 97, 115]⟩ : ByteArray), .string (⟨#[105, 110, 99, 114]⟩ : ByteArray), .string (⟨#[100, 101, 99, 114]⟩ : ByteArray), .string (⟨#[97, 112, 112, 101, 110, 100]⟩ : ByteArray), .string (⟨#[116, 111, 117, 99, 104]⟩ : ByteArray), .string (⟨#[100, 101, 108, 101, 116, 101]⟩ : ByteArray), .string (⟨#[102, 108, 117, 115, 104]⟩ : ByteArray)] 110 (0, 0))) ∧ Aside0 (Below w.heap.size w wc))
        case first =>
         have H := HC69.out
         clear HC69
         by_cases c70 : x33_60 = true
         ·subst c70
          rw [if_pos rfl] at H
          by_cases c71 : x4_2.size + 1 ≤ 9223372036854775807
          ·rw [if_pos c71] at H
           have c71b0 := eq_true c71
           have c71b1 : decide (x4_2.size + 1 ≤ 9223372036854775807) = true := decide_eq_true c71
           try have c71b2 : (9223372036854775807 < x4_2.size + 1) = False := eq_false (Nat.not_lt.2 c71)
           try (have c71b3 := c71b2; simp only [ByteArray.size_append, x_size_lit, List.size_toArray, List.length_cons, List.length_nil, Nat.zero_add, Nat.reduceAdd] at c71b3)
           replace H := Option.bind_eq_some_iff.mp H
           obtain ⟨t314, A720, H⟩ := H
           replace H : (if (x4_2 ++ (⟨#[32]⟩ : ByteArray)).size + t314.size ≤ 9223372036854775807 then (if ((x4_2 ++ (⟨#[32]⟩ : ByteArray)) ++ t314).size + 1 ≤ 9223372036854775807 then ((cloakroomref09_Text.f kj60 (IntKind.u64.wrap (a0_5))).bind fun t315 => (if (((x4_2 ++ (⟨#[32]⟩ : ByteArray)) ++ t314) ++ (⟨#[32]⟩ : ByteArray)).size + t315.size ≤ 9223372036854775807 then (cloakroomref14_line.j3 kj60 ((((x4_2 ++ (⟨#[32]⟩ : ByteArray)) ++ t314) ++ (⟨#[32]⟩ : ByteArray)) ++ t315) a0_0 a0_1 l0_2 a0_3 a0_4 a0_5 a0_6 a0_7) else (none))) else (none)) else (none)) = some r := H
           have A72 := Aside0.mk A720
           clear A720
           by_cases c73 : (x4_2 ++ (⟨#[32]⟩ : ByteArray)).size + t314.size ≤ 9223372036854775807
           ·rw [if_pos c73] at H
            have c73b0 := eq_true c73
            have c73b1 : decide ((x4_2 ++ (⟨#[32]⟩ : ByteArray)).size + t314.size ≤ 9223372036854775807) = true := decide_eq_true c73
            try have c73b2 : (9223372036854775807 < (x4_2 ++ (⟨#[32]⟩ : ByteArray)).size + t314.size) = False := eq_false (Nat.not_lt.2 c73)
            try (have c73b3 := c73b2; simp only [ByteArray.size_append, x_size_lit, List.size_toArray, List.length_cons, List.length_nil, Nat.zero_add, Nat.reduceAdd] at c73b3)
            by_cases c74 : ((x4_2 ++ (⟨#[32]⟩ : ByteArray)) ++ t314).size + 1 ≤ 9223372036854775807
            ·rw [if_pos c74] at H
             have c74b0 := eq_true c74
             have c74b1 : decide (((x4_2 ++ (⟨#[32]⟩ : ByteArray)) ++ t314).size + 1 ≤ 9223372036854775807) = true := decide_eq_true c74
             try have c74b2 : (9223372036854775807 < ((x4_2 ++ (⟨#[32]⟩ : ByteArray)) ++ t314).size + 1) = False := eq_false (Nat.not_lt.2 c74)
             try (have c74b3 := c74b2; simp only [ByteArray.size_append, x_size_lit, List.size_toArray, List.length_cons, List.length_nil, Nat.zero_add, Nat.reduceAdd] at c74b3)
             replace H := Option.bind_eq_some_iff.mp H
             obtain ⟨t315, A750, H⟩ := H
             replace H : (if (((x4_2 ++ (⟨#[32]⟩ : ByteArray)) ++ t314) ++ (⟨#[32]⟩ : ByteArray)).size + t315.size ≤ 9223372036854775807 then (cloakroomref14_line.j3 kj60 ((((x4_2 ++ (⟨#[32]⟩ : ByteArray)) ++ t314) ++ (⟨#[32]⟩ : ByteArray)) ++ t315) a0_0 a0_1 l0_2 a0_3 a0_4 a0_5 a0_6 a0_7) else (none)) = some r := H
             have A75 := Aside0.mk A750
             clear A750
             by_cases c76 : (((x4_2 ++ (⟨#[32]⟩ : ByteArray)) ++ t314) ++ (⟨#[32]⟩ : ByteArray)).size + t315.size ≤ 9223372036854775807
             ·rw [if_pos c76] at H
              have c76b0 := eq_true c76
              have c76b1 : decide ((((x4_2 ++ (⟨#[32]⟩ : ByteArray)) ++ t314) ++ (⟨#[32]⟩ : ByteArray)).size + t315.size ≤ 9223372036854775807) = true := decide_eq_true c76
              try have c76b2 : (9223372036854775807 < (((x4_2 ++ (⟨#[32]⟩ : ByteArray)) ++ t314) ++ (⟨#[32]⟩ : ByteArray)).size + t315.size) = False := eq_false (Nat.not_lt.2 c76)
              try (have c76b3 := c76b2; simp only [ByteArray.size_append, x_size_lit, List.size_toArray, List.length_cons, List.length_nil, Nat.zero_add, Nat.reduceAdd] at c76b3)
              have H' := Aside0.mk H
              clear H
              have hnb77 := NB311_312.out
              have hnc77 := NB312_311.out
              have hz78 := blk8 BK311.out
              go_wp2_with (first | (go_at_call 42; (with_reducible refine (cloakroomref09_Text.calls kj60 (IntKind.u64.wrap (a0_4)) t314 _ A72.out).mono ?_); rintro e w' ⟨rfl, ⟨nd, rfl⟩⟩; (try first | exact ⟨rfl, _, World.drewN_drewN _ _ _⟩ | exact ⟨rfl, _, Eq.trans (World.drewN_drewN _ _ _) (congrArg (World.drewN _) (Nat.add_assoc _ _ _))⟩)) | (go_at_call 42; (with_reducible refine (cloakroomref09_Text.calls kj60 (IntKind.u64.wrap (a0_5)) t315 _ A75.out).mono ?_); rintro e w' ⟨rfl, ⟨nd, rfl⟩⟩; (try first | exact ⟨rfl, _, World.drewN_drewN _ _ _⟩ | exact ⟨rfl, _, Eq.trans (World.drewN_drewN _ _ _) (congrArg (World.drewN _) (Nat.add_assoc _ _ _))⟩)))
              repeat (go_quiet (first | (go_at_call 42; (with_reducible refine (cloakroomref09_Text.calls kj60 (IntKind.u64.wrap (a0_4)) t314 _ A72.out).mono ?_); rintro e w' ⟨rfl, ⟨nd, rfl⟩⟩; (try first | exact ⟨rfl, _, World.drewN_drewN _ _ _⟩ | exact ⟨rfl, _, Eq.trans (World.drewN_drewN _ _ _) (congrArg (World.drewN _) (Nat.add_assoc _ _ _))⟩)) | (go_at_call 42; (with_reducible refine (cloakroomref09_Text.calls kj60 (IntKind.u64.wrap (a0_5)) t315 _ A75.out).mono ?_); rintro e w' ⟨rfl, ⟨nd, rfl⟩⟩; (try first | exact ⟨rfl, _, World.drewN_drewN _ _ _⟩ | exact ⟨rfl, _, Eq.trans (World.drewN_drewN _ _ _) (congrArg (World.drewN _) (Nat.add_assoc _ _ _))⟩))); try go_wp2_with (first | (go_at_call 42; (with_reducible refine (cloakroomref09_Text.calls kj60 (IntKind.u64.wrap (a0_4)) t314 _ A72.out).mono ?_); rintro e w' ⟨rfl, ⟨nd, rfl⟩⟩; (try first | exact ⟨rfl, _, World.drewN_drewN _ _ _⟩ | exact ⟨rfl, _, Eq.trans (World.drewN_drewN _ _ _) (congrArg (World.drewN _) (Nat.add_assoc _ _ _))⟩)) | (go_at_call 42; (with_reducible refine (cloakroomref09_Text.calls kj60 (IntKind.u64.wrap (a0_5)) t315 _ A75.out).mono ?_); rintro e w' ⟨rfl, ⟨nd, rfl⟩⟩; (try first | exact ⟨rfl, _, World.drewN_drewN _ _ _⟩ | exact ⟨rfl, _, Eq.trans (World.drewN_drewN _ _ _) (congrArg (World.drewN _) (Nat.add_assoc _ _ _))⟩))))
              go_meet
              case rel => exact ⟨_, ((((x4_2 ++ (⟨#[32]⟩ : ByteArray)) ++ t314) ++ (⟨#[32]⟩ : ByteArray)) ++ t315), t30_4, H', ⟨by have := HJ1.out; have := HK2.out; have := HJ60.out; first | omega | exact Nat.le_refl _⟩, ⟨t30_3⟩, ⟨t30_5⟩, ⟨t30_2⟩⟩
             ·rw [if_neg c76] at H
              exact absurd H (by simp)
            ·rw [if_neg c74] at H
             exact absurd H (by simp)
           ·rw [if_neg c73] at H
            exact absurd H (by simp)
          ·rw [if_neg c71] at H
           exact absurd H (by simp)
         ·replace c70 := Bool.eq_false_iff.mpr c70
          subst c70
          rw [if_neg (show ¬ (false = true) by decide)] at H
          have H' := Aside0.mk H
          clear H
          go_wp2
          repeat (go_quiet (fail); try go_wp2)
          go_meet
          case rel => exact ⟨_, (x4_2), t30_4, H', ⟨by have := HJ1.out; have := HK2.out; have := HJ60.out; first | omega | exact Nat.le_refl _⟩, ⟨t30_3⟩, ⟨t30_5⟩, ⟨t30_2⟩⟩
        case rest => as_aux_lemma =>
         clear HC69
         (try clear hz63)
         obtain ⟨kq, x4_68, rfl, HA, HJ68, BK311, BK312, HB⟩ := hcut
         cases kq with
         | zero => exact absurd HA.out (by simp [cloakroomref14_line.j3])
         | succ kj68 =>
          have H := HA.out
          clear HA
          simp only [cloakroomref14_line.j3] at H
          have HC79 := Aside0.mk H
          clear H
          go_upto_region 9 with (fail)
          repeat (go_quiet (fail); go_upto_region 9 with (fail))
          go_cut [59] (fun v59 wc => ∃ (kq : Nat) (x59_78 : Bool), v59 = .bool x59_78 ∧ Aside0 (cloakroomref14_line.j4 kq x4_68 x59_78 a0_0 a0_1 l0_2 a0_3 a0_4 a0_5 a0_6 a0_7 = some r) ∧ Aside0 (kq ≤ kj68) ∧ Aside0 (wc.heap[gb311]? = some (.cells #[.int .u8 a0_0, .int .i64 a0_1, (.slice A0_2 l0_2.length c0_2), .string a0_3, .int .u32 a0_4, .int .i64 a0_5, .int .u64 a0_6, .int .u64 a0_7] 40 (0, 0))) ∧ Aside0 (wc.heap[gb312]? = some (.cells #[.string (⟨#[]⟩ : ByteArray), .string (⟨#[103, 101, 116]⟩ : ByteArray), .string (⟨#[115, 101, 116]⟩ : ByteArray), .string (⟨#[97, 100, 100]⟩ : ByteArray), .string (⟨#[114, 101, 112, 108, 97, 99, 101]⟩ : ByteArray), .string (⟨#[99, 97, 115]⟩ : ByteArray), .string (⟨#[105, 110, 99, 114]⟩ : ByteArray), .string (⟨#[100, 101, 99, 114]⟩ : ByteArray), .string (⟨#[97, 112, 112, 101, 110, 100]⟩ : ByteArray), .string (⟨#[116, 111, 117, 99, 104]⟩ : ByteArray), .string (⟨#[100, 101, 108, 101, 116, 101]⟩ : ByteArray), .string (⟨#[102, 108, 117, 115, 104]⟩ : ByteArray)] 110 (0, 0))) ∧ Aside0 (Below w.heap.size w wc))
          case first =>
           have H := HC79.out
           clear HC79
           by_cases c80 : a0_0 ≥ 2
           ·rw [if_pos c80] at H
            have c80b0 : decide (2 ≤ a0_0) = true := decide_eq_true c80
            clear c80
            (first | rw [c80b0] | (simp only [i64_w, i32_w]; rw [c80b0]) | rw [c80b1] | skip)
            by_cases c81 : a0_0 ≤ 5
            ·rw [if_pos c81] at H
             have c81b0 : decide (a0_0 ≤ 5) = true := decide_eq_true c81
             clear c81
             have H' := Aside0.mk H
             clear H
             have hnb82 := NB311_312.out
             have hnc82 := NB312_311.out
             have hz83 := blk8 BK311.out
             go_wp2
             repeat (go_quiet (fail); try go_wp2)
             go_meet
             case rel => exact ⟨_, (true), t30_4, H', ⟨t30_12⟩, ⟨t30_3⟩, ⟨t30_5⟩, ⟨t30_2⟩⟩
            ·rw [if_neg c81] at H
             have c81b0 : decide (a0_0 ≤ 5) = false := decide_eq_false c81
             clear c81
             have H' := Aside0.mk H
             clear H
             have hnb84 := NB311_312.out
             have hnc84 := NB312_311.out
             have hz85 := blk8 BK311.out
             go_wp2
             repeat (go_quiet (fail); try go_wp2)
             go_meet
             case rel => exact ⟨_, ((a0_0 == 8)), t30_4, H', ⟨t30_12⟩, ⟨t30_3⟩, ⟨t30_5⟩, ⟨t30_2⟩⟩
           ·rw [if_neg c80] at H
            have c80b0 : decide (2 ≤ a0_0) = false := decide_eq_false c80
            clear c80
            (first | rw [c80b0] | (simp only [i64_w, i32_w]; rw [c80b0]) | rw [c80b1] | skip)
            have H' := Aside0.mk H
            clear H
            have hnb86 := NB311_312.out
            have hnc86 := NB312_311.out
            have hz87 := blk8 BK311.out
            go_wp2
            repeat (go_quiet (fail); try go_wp2)
            go_meet
            case rel => exact ⟨_, ((a0_0 == 8)), t30_4, H', ⟨t30_12⟩, ⟨t30_3⟩, ⟨t30_5⟩, ⟨t30_2⟩⟩
          case rest => as_aux_lemma =>
           clear HC79
           (try clear hz63)
           obtain ⟨kq, x59_78, rfl, HA, HJ78, BK311, BK312, HB⟩ := hcut
           cases kq with
           | zero => exact absurd HA.out (by simp [cloakroomref14_line.j4])
           | succ kj78 =>
            have H := HA.out
            clear HA
            simp only [cloakroomref14_line.j4] at H
            have HC88 := Aside0.mk H
            clear H
            go_upto_if 59 with (fail)
            repeat (go_quiet (fail); go_upto_if 59 with (fail))
            go_cut [4] (fun v4 wc => ∃ (kq : Nat) (x4_87 : ByteArray), v4 = .string x4_87 ∧ Aside0 (cloakroomref14_line.j5 kq x4_87 a0_0 a0_1 l0_2 a0_3 a0_4 a0_5 a0_6 a0_7 = some r) ∧ Aside0 (kq ≤ kj78) ∧ Aside0 (wc.heap[gb311]? = some (.cells #[.int .u8 a0_0, .int .i64 a0_1, (.slice A0_2 l0_2.length c0_2), .string a0_3, .int .u32 a0_4, .int .i64 a0_5, .int .u64 a0_6, .int .u64 a0_7] 40 (0, 0))) ∧ Aside0 (wc.heap[gb312]? = some (.cells #[.string (⟨#[]⟩ : ByteArray), .string (⟨#[103, 101, 116]⟩ : ByteArray), .string (⟨#[115, 101, 116]⟩ : ByteArray), .string (⟨#[97, 100, 100]⟩ : ByteArray), .string (⟨#[114, 101, 112, 108, 97, 99, 101]⟩ : ByteArray), .string (⟨#[99, 97, 115]⟩ : ByteArray), .string (⟨#[105, 110, 99, 114]⟩ : ByteArray), .string (⟨#[100, 101, 99, 114]⟩ : ByteArray), .string (⟨#[97, 112, 112, 101, 110, 100]⟩ : ByteArray), .string (⟨#[116, 111, 117, 99, 104]⟩ : ByteArray), .string (⟨#[100, 101, 108, 101, 116, 101]⟩ : ByteArray), .string (⟨#[102, 108, 117, 115, 104]⟩ : ByteArray)] 110 (0, 0))) ∧ Aside0 (Below w.heap.size w wc))
            case first =>
             have H := HC88.out
             clear HC88
             by_cases c89 : x59_78 = true
             ·subst c89
              rw [if_pos rfl] at H
              by_cases c90 : x4_68.size + 1 ≤ 9223372036854775807
              ·rw [if_pos c90] at H
               have c90b0 := eq_true c90
               have c90b1 : decide (x4_68.size + 1 ≤ 9223372036854775807) = true := decide_eq_true c90
               try have c90b2 : (9223372036854775807 < x4_68.size + 1) = False := eq_false (Nat.not_lt.2 c90)
               try (have c90b3 := c90b2; simp only [ByteArray.size_append, x_size_lit, List.size_toArray, List.length_cons, List.length_nil, Nat.zero_add, Nat.reduceAdd] at c90b3)
               replace H := Option.bind_eq_some_iff.mp H
               obtain ⟨t316, A910, H⟩ := H
               replace H : (if (x4_68 ++ (⟨#[32]⟩ : ByteArray)).size + t316.size ≤ 9223372036854775807 then (cloakroomref14_line.j5 kj78 ((x4_68 ++ (⟨#[32]⟩ : ByteArray)) ++ t316) a0_0 a0_1 l0_2 a0_3 a0_4 a0_5 a0_6 a0_7) else (none)) = some r := H
               have A91 := Aside0.mk A910
               clear A910
               by_cases c92 : (x4_68 ++ (⟨#[32]⟩ : ByteArray)).size + t316.size ≤ 9223372036854775807
               ·rw [if_pos c92] at H
                have c92b0 := eq_true c92
                have c92b1 : decide ((x4_68 ++ (⟨#[32]⟩ : ByteArray)).size + t316.size ≤ 9223372036854775807) = true := decide_eq_true c92
                try have c92b2 : (9223372036854775807 < (x4_68 ++ (⟨#[32]⟩ : ByteArray)).size + t316.size) = False := eq_false (Nat.not_lt.2 c92)
                try (have c92b3 := c92b2; simp only [ByteArray.size_append, x_size_lit, List.size_toArray, List.length_cons, List.length_nil, Nat.zero_add, Nat.reduceAdd] at c92b3)
                have H' := Aside0.mk H
                clear H
                have hnb93 := NB311_312.out
                have hnc93 := NB312_311.out
                have hz94 := blk8 BK311.out
                go_wp2_with (first | (go_at_call 42; (with_reducible refine (cloakroomref09_Text.calls kj78 (IntKind.u64.wrap ((a0_3.size : Int))) t316 _ A91.out).mono ?_); rintro e w' ⟨rfl, ⟨nd, rfl⟩⟩; (try first | exact ⟨rfl, _, World.drewN_drewN _ _ _⟩ | exact ⟨rfl, _, Eq.trans (World.drewN_drewN _ _ _) (congrArg (World.drewN _) (Nat.add_assoc _ _ _))⟩)))
                repeat (go_quiet (first | (go_at_call 42; (with_reducible refine (cloakroomref09_Text.calls kj78 (IntKind.u64.wrap ((a0_3.size : Int))) t316 _ A91.out).mono ?_); rintro e w' ⟨rfl, ⟨nd, rfl⟩⟩; (try first | exact ⟨rfl, _, World.drewN_drewN _ _ _⟩ | exact ⟨rfl, _, Eq.trans (World.drewN_drewN _ _ _) (congrArg (World.drewN _) (Nat.add_assoc _ _ _))⟩))); try go_wp2_with (first | (go_at_call 42; (with_reducible refine (cloakroomref09_Text.calls kj78 (IntKind.u64.wrap ((a0_3.size : Int))) t316 _ A91.out).mono ?_); rintro e w' ⟨rfl, ⟨nd, rfl⟩⟩; (try first | exact ⟨rfl, _, World.drewN_drewN _ _ _⟩ | exact ⟨rfl, _, Eq.trans (World.drewN_drewN _ _ _) (congrArg (World.drewN _) (Nat.add_assoc _ _ _))⟩))))
                go_meet
                case rel => exact ⟨_, ((x4_68 ++ (⟨#[32]⟩ : ByteArray)) ++ t316), t30_4, H', ⟨t30_18⟩, ⟨t30_3⟩, ⟨t30_5⟩, ⟨t30_2⟩⟩
               ·rw [if_neg c92] at H
                exact absurd H (by simp)
              ·rw [if_neg c90] at H
               exact absurd H (by simp)
             ·replace c89 := Bool.eq_false_iff.mpr c89
              subst c89
              rw [if_neg (show ¬ (false = true) by decide)] at H
              have H' := Aside0.mk H
              clear H
              go_wp2
              repeat (go_quiet (fail); try go_wp2)
              go_meet
              case rel => exact ⟨_, (x4_68), t30_4, H', ⟨t30_18⟩, ⟨t30_3⟩, ⟨t30_5⟩, ⟨t30_2⟩⟩
            case rest => as_aux_lemma =>
             clear HC88
             (try clear hz63)
             obtain ⟨kq, x4_87, rfl, HA, HJ87, BK311, BK312, HB⟩ := hcut
             cases kq with
             | zero => exact absurd HA.out (by simp [cloakroomref14_line.j5])
             | succ kj87 =>
              have H := HA.out
              clear HA
              simp only [cloakroomref14_line.j5] at H
              have HC95 := Aside0.mk H
              clear H
              have hnb96 := NB311_312.out
              have hnc96 := NB312_311.out
              have hz97 := blk8 BK311.out
              go_upto_if 70 with (fail)
              repeat (go_quiet (fail); go_upto_if 70 with (fail))
              go_cut [4] (fun v4 wc => ∃ (kq : Nat) (x4_94 : ByteArray), v4 = .string x4_94 ∧ Aside0 (cloakroomref14_line.j6 kq x4_94 a0_0 a0_1 l0_2 a0_3 a0_4 a0_5 a0_6 a0_7 = some r) ∧ Aside0 (kq ≤ kj87) ∧ Aside0 (wc.heap[gb311]? = some (.cells #[.int .u8 a0_0, .int .i64 a0_1, (.slice A0_2 l0_2.length c0_2), .string a0_3, .int .u32 a0_4, .int .i64 a0_5, .int .u64 a0_6, .int .u64 a0_7] 40 (0, 0))) ∧ Aside0 (wc.heap[gb312]? = some (.cells #[.string (⟨#[]⟩ : ByteArray), .string (⟨#[103, 101, 116]⟩ : ByteArray), .string (⟨#[115, 101, 116]⟩ : ByteArray), .string (⟨#[97, 100, 100]⟩ : ByteArray), .string (⟨#[114, 101, 112, 108, 97, 99, 101]⟩ : ByteArray), .string (⟨#[99, 97, 115]⟩ : ByteArray), .string (⟨#[105, 110, 99, 114]⟩ : ByteArray), .string (⟨#[100, 101, 99, 114]⟩ : ByteArray), .string (⟨#[97, 112, 112, 101, 110, 100]⟩ : ByteArray), .string (⟨#[116, 111, 117, 99, 104]⟩ : ByteArray), .string (⟨#[100, 101, 108, 101, 116, 101]⟩ : ByteArray), .string (⟨#[102, 108, 117, 115, 104]⟩ : ByteArray)] 110 (0, 0))) ∧ Aside0 (Below w.heap.size w wc))
              case first =>
               have H := HC95.out
               clear HC95
               by_cases c98 : a0_0 = 5
               ·rw [if_pos c98] at H
                have c98b0 : (a0_0 == 5) = true := beq_iff_eq.mpr c98
                have c98b1 : (a0_0 != 5) = false := bne_eq_false_iff_eq.mpr c98
                clear c98
                (first | rw [c98b0] | (simp only [i64_w, i32_w]; rw [c98b0]) | rw [c98b1] | skip)
                by_cases c99 : x4_87.size + 1 ≤ 9223372036854775807
                ·rw [if_pos c99] at H
                 have c99b0 := eq_true c99
                 have c99b1 : decide (x4_87.size + 1 ≤ 9223372036854775807) = true := decide_eq_true c99
                 try have c99b2 : (9223372036854775807 < x4_87.size + 1) = False := eq_false (Nat.not_lt.2 c99)
                 try (have c99b3 := c99b2; simp only [ByteArray.size_append, x_size_lit, List.size_toArray, List.length_cons, List.length_nil, Nat.zero_add, Nat.reduceAdd] at c99b3)
                 replace H := Option.bind_eq_some_iff.mp H
                 obtain ⟨t317, A1000, H⟩ := H
                 replace H : (if (x4_87 ++ (⟨#[32]⟩ : ByteArray)).size + t317.size ≤ 9223372036854775807 then (cloakroomref14_line.j6 kj87 ((x4_87 ++ (⟨#[32]⟩ : ByteArray)) ++ t317) a0_0 a0_1 l0_2 a0_3 a0_4 a0_5 a0_6 a0_7) else (none)) = some r := H
                 have A100 := Aside0.mk A1000
                 clear A1000
                 by_cases c101 : (x4_87 ++ (⟨#[32]⟩ : ByteArray)).size + t317.size ≤ 9223372036854775807
                 ·rw [if_pos c101] at H
                  have c101b0 := eq_true c101
                  have c101b1 : decide ((x4_87 ++ (⟨#[32]⟩ : ByteArray)).size + t317.size ≤ 9223372036854775807) = true := decide_eq_true c101
                  try have c101b2 : (9223372036854775807 < (x4_87 ++ (⟨#[32]⟩ : ByteArray)).size + t317.size) = False := eq_false (Nat.not_lt.2 c101)
                  try (have c101b3 := c101b2; simp only [ByteArray.size_append, x_size_lit, List.size_toArray, List.length_cons, List.length_nil, Nat.zero_add, Nat.reduceAdd] at c101b3)
                  have H' := Aside0.mk H
                  clear H
                  have hnb102 := NB311_312.out
                  have hnc102 := NB312_311.out
                  have hz103 := blk8 BK311.out
                  go_wp2_with (first | (go_at_call 42; (with_reducible refine (cloakroomref09_Text.calls kj87 a0_6 t317 _ A100.out).mono ?_); rintro e w' ⟨rfl, ⟨nd, rfl⟩⟩; (try first | exact ⟨rfl, _, World.drewN_drewN _ _ _⟩ | exact ⟨rfl, _, Eq.trans (World.drewN_drewN _ _ _) (congrArg (World.drewN _) (Nat.add_assoc _ _ _))⟩)))
                  repeat (go_quiet (first | (go_at_call 42; (with_reducible refine (cloakroomref09_Text.calls kj87 a0_6 t317 _ A100.out).mono ?_); rintro e w' ⟨rfl, ⟨nd, rfl⟩⟩; (try first | exact ⟨rfl, _, World.drewN_drewN _ _ _⟩ | exact ⟨rfl, _, Eq.trans (World.drewN_drewN _ _ _) (congrArg (World.drewN _) (Nat.add_assoc _ _ _))⟩))); try go_wp2_with (first | (go_at_call 42; (with_reducible refine (cloakroomref09_Text.calls kj87 a0_6 t317 _ A100.out).mono ?_); rintro e w' ⟨rfl, ⟨nd, rfl⟩⟩; (try first | exact ⟨rfl, _, World.drewN_drewN _ _ _⟩ | exact ⟨rfl, _, Eq.trans (World.drewN_drewN _ _ _) (congrArg (World.drewN _) (Nat.add_assoc _ _ _))⟩))))
                  go_meet
                  case rel => exact ⟨_, ((x4_87 ++ (⟨#[32]⟩ : ByteArray)) ++ t317), t30_4, H', ⟨t30_17⟩, ⟨t30_3⟩, ⟨t30_5⟩, ⟨t30_2⟩⟩
                 ·rw [if_neg c101] at H
                  exact absurd H (by simp)
                ·rw [if_neg c99] at H
                 exact absurd H (by simp)
               ·rw [if_neg c98] at H
                have c98b0 : (a0_0 == 5) = false := beq_eq_false_iff_ne.mpr c98
                have c98b1 : (a0_0 != 5) = true := bne_iff_ne.mpr c98
                (first | rw [c98b0] | (simp only [i64_w, i32_w]; rw [c98b0]) | rw [c98b1] | skip)
                have H' := Aside0.mk H
                clear H
                go_wp2
                repeat (go_quiet (fail); try go_wp2)
                go_meet
                case rel => exact ⟨_, (x4_87), t30_4, H', ⟨t30_17⟩, ⟨t30_3⟩, ⟨t30_5⟩, ⟨t30_2⟩⟩
              case rest => as_aux_lemma =>
               clear HC95
               (try clear hz63); (try clear hz97)
               obtain ⟨kq, x4_94, rfl, HA, HJ94, BK311, BK312, HB⟩ := hcut
               cases kq with
               | zero => exact absurd HA.out (by simp [cloakroomref14_line.j6])
               | succ kj94 =>
                have H := HA.out
                clear HA
                simp only [cloakroomref14_line.j6] at H
                have HC104 := Aside0.mk H
                clear H
                go_upto_region 13 with (fail)
                repeat (go_quiet (fail); go_upto_region 13 with (fail))
                go_cut [84] (fun v84 wc => ∃ (kq : Nat) (x84_103 : Bool), v84 = .bool x84_103 ∧ Aside0 (cloakroomref14_line.j7 kq x4_94 x84_103 a0_0 a0_1 l0_2 a0_3 a0_4 a0_5 a0_6 a0_7 = some r) ∧ Aside0 (kq ≤ kj94) ∧ Aside0 (wc.heap[gb311]? = some (.cells #[.int .u8 a0_0, .int .i64 a0_1, (.slice A0_2 l0_2.length c0_2), .string a0_3, .int .u32 a0_4, .int .i64 a0_5, .int .u64 a0_6, .int .u64 a0_7] 40 (0, 0))) ∧ Aside0 (wc.heap[gb312]? = some (.cells #[.string (⟨#[]⟩ : ByteArray), .string (⟨#[103, 101, 116]⟩ : ByteArray), .string (⟨#[115, 101, 116]⟩ : ByteArray), .string (⟨#[97, 100, 100]⟩ : ByteArray), .string (⟨#[114, 101, 112, 108, 97, 99, 101]⟩ : ByteArray), .string (⟨#[99, 97, 115]⟩ : ByteArray), .string (⟨#[105, 110, 99, 114]⟩ : ByteArray), .string (⟨#[100, 101, 99, 114]⟩ : ByteArray), .string (⟨#[97, 112, 112, 101, 110, 100]⟩ : ByteArray), .string (⟨#[116, 111, 117, 99, 104]⟩ : ByteArray), .string (⟨#[100, 101, 108, 101, 116, 101]⟩ : ByteArray), .string (⟨#[102, 108, 117, 115, 104]⟩ : ByteArray)] 110 (0, 0))) ∧ Aside0 (Below w.heap.size w wc))
                case first =>
                 have H := HC104.out
                 clear HC104
                 by_cases c105 : a0_0 = 6
                 ·rw [if_pos c105] at H
                  have c105b0 : (a0_0 == 6) = true := beq_iff_eq.mpr c105
                  have c105b1 : (a0_0 != 6) = false := bne_eq_false_iff_eq.mpr c105
                  clear c105
                  (first | rw [c105b0] | (simp only [i64_w, i32_w]; rw [c105b0]) | rw [c105b1] | skip)
                  have H' := Aside0.mk H
                  clear H
                  have hnb106 := NB311_312.out
                  have hnc106 := NB312_311.out
                  have hz107 := blk8 BK311.out
                  go_wp2
                  repeat (go_quiet (fail); try go_wp2)
                  go_meet
                  case rel => exact ⟨_, (true), t30_4, H', ⟨t30_16⟩, ⟨t30_3⟩, ⟨t30_5⟩, ⟨t30_2⟩⟩
                 ·rw [if_neg c105] at H
                  have c105b0 : (a0_0 == 6) = false := beq_eq_false_iff_ne.mpr c105
                  have c105b1 : (a0_0 != 6) = true := bne_iff_ne.mpr c105
                  (first | rw [c105b0] | (simp only [i64_w, i32_w]; rw [c105b0]) | rw [c105b1] | skip)
                  have H' := Aside0.mk H
                  clear H
                  have hnb108 := NB311_312.out
                  have hnc108 := NB312_311.out
                  have hz109 := blk8 BK311.out
                  go_wp2
                  repeat (go_quiet (fail); try go_wp2)
                  go_meet
                  case rel => exact ⟨_, ((a0_0 == 7)), t30_4, H', ⟨t30_16⟩, ⟨t30_3⟩, ⟨t30_5⟩, ⟨t30_2⟩⟩
                case rest => as_aux_lemma =>
                 clear HC104
                 (try clear hz63); (try clear hz97)
                 obtain ⟨kq, x84_103, rfl, HA, HJ103, BK311, BK312, HB⟩ := hcut
                 cases kq with
                 | zero => exact absurd HA.out (by simp [cloakroomref14_line.j7])
                 | succ kj103 =>
                  have H := HA.out
                  clear HA
                  simp only [cloakroomref14_line.j7] at H
                  have HC110 := Aside0.mk H
                  clear H
                  go_upto_if 84 with (fail)
                  repeat (go_quiet (fail); go_upto_if 84 with (fail))
                  go_cut [4] (fun v4 wc => ∃ (kq : Nat) (x4_109 : ByteArray), v4 = .string x4_109 ∧ Aside0 (cloakroomref14_line.j8 kq x4_109 a0_0 a0_1 l0_2 a0_3 a0_4 a0_5 a0_6 a0_7 = some r) ∧ Aside0 (kq ≤ kj103) ∧ Aside0 (wc.heap[gb311]? = some (.cells #[.int .u8 a0_0, .int .i64 a0_1, (.slice A0_2 l0_2.length c0_2), .string a0_3, .int .u32 a0_4, .int .i64 a0_5, .int .u64 a0_6, .int .u64 a0_7] 40 (0, 0))) ∧ Aside0 (wc.heap[gb312]? = some (.cells #[.string (⟨#[]⟩ : ByteArray), .string (⟨#[103, 101, 116]⟩ : ByteArray), .string (⟨#[115, 101, 116]⟩ : ByteArray), .string (⟨#[97, 100, 100]⟩ : ByteArray), .string (⟨#[114, 101, 112, 108, 97, 99, 101]⟩ : ByteArray), .string (⟨#[99, 97, 115]⟩ : ByteArray), .string (⟨#[105, 110, 99, 114]⟩ : ByteArray), .string (⟨#[100, 101, 99, 114]⟩ : ByteArray), .string (⟨#[97, 112, 112, 101, 110, 100]⟩ : ByteArray), .string (⟨#[116, 111, 117, 99, 104]⟩ : ByteArray), .string (⟨#[100, 101, 108, 101, 116, 101]⟩ : ByteArray), .string (⟨#[102, 108, 117, 115, 104]⟩ : ByteArray)] 110 (0, 0))) ∧ Aside0 (Below w.heap.size w wc))
                  case first =>
                   have H := HC110.out
                   clear HC110
                   by_cases c111 : x84_103 = true
                   ·subst c111
                    rw [if_pos rfl] at H
                    by_cases c112 : x4_94.size + 1 ≤ 9223372036854775807
                    ·rw [if_pos c112] at H
                     have c112b0 := eq_true c112
                     have c112b1 : decide (x4_94.size + 1 ≤ 9223372036854775807) = true := decide_eq_true c112
                     try have c112b2 : (9223372036854775807 < x4_94.size + 1) = False := eq_false (Nat.not_lt.2 c112)
                     try (have c112b3 := c112b2; simp only [ByteArray.size_append, x_size_lit, List.size_toArray, List.length_cons, List.length_nil, Nat.zero_add, Nat.reduceAdd] at c112b3)
                     replace H := Option.bind_eq_some_iff.mp H
                     obtain ⟨t318, A1130, H⟩ := H
                     replace H : (if (x4_94 ++ (⟨#[32]⟩ : ByteArray)).size + t318.size ≤ 9223372036854775807 then (cloakroomref14_line.j8 kj103 ((x4_94 ++ (⟨#[32]⟩ : ByteArray)) ++ t318) a0_0 a0_1 l0_2 a0_3 a0_4 a0_5 a0_6 a0_7) else (none)) = some r := H
                     have A113 := Aside0.mk A1130
                     clear A1130
                     by_cases c114 : (x4_94 ++ (⟨#[32]⟩ : ByteArray)).size + t318.size ≤ 9223372036854775807
                     ·rw [if_pos c114] at H
                      have c114b0 := eq_true c114
                      have c114b1 : decide ((x4_94 ++ (⟨#[32]⟩ : ByteArray)).size + t318.size ≤ 9223372036854775807) = true := decide_eq_true c114
                      try have c114b2 : (9223372036854775807 < (x4_94 ++ (⟨#[32]⟩ : ByteArray)).size + t318.size) = False := eq_false (Nat.not_lt.2 c114)
                      try (have c114b3 := c114b2; simp only [ByteArray.size_append, x_size_lit, List.size_toArray, List.length_cons, List.length_nil, Nat.zero_add, Nat.reduceAdd] at c114b3)
                      have H' := Aside0.mk H
                      clear H
                      have hnb115 := NB311_312.out
                      have hnc115 := NB312_311.out
                      have hz116 := blk8 BK311.out
                      go_wp2_with (first | (go_at_call 42; (with_reducible refine (cloakroomref09_Text.calls kj103 a0_7 t318 _ A113.out).mono ?_); rintro e w' ⟨rfl, ⟨nd, rfl⟩⟩; (try first | exact ⟨rfl, _, World.drewN_drewN _ _ _⟩ | exact ⟨rfl, _, Eq.trans (World.drewN_drewN _ _ _) (congrArg (World.drewN _) (Nat.add_assoc _ _ _))⟩)))
                      repeat (go_quiet (first | (go_at_call 42; (with_reducible refine (cloakroomref09_Text.calls kj103 a0_7 t318 _ A113.out).mono ?_); rintro e w' ⟨rfl, ⟨nd, rfl⟩⟩; (try first | exact ⟨rfl, _, World.drewN_drewN _ _ _⟩ | exact ⟨rfl, _, Eq.trans (World.drewN_drewN _ _ _) (congrArg (World.drewN _) (Nat.add_assoc _ _ _))⟩))); try go_wp2_with (first | (go_at_call 42; (with_reducible refine (cloakroomref09_Text.calls kj103 a0_7 t318 _ A113.out).mono ?_); rintro e w' ⟨rfl, ⟨nd, rfl⟩⟩; (try first | exact ⟨rfl, _, World.drewN_drewN _ _ _⟩ | exact ⟨rfl, _, Eq.trans (World.drewN_drewN _ _ _) (congrArg (World.drewN _) (Nat.add_assoc _ _ _))⟩))))
                      go_meet
                      case rel => exact ⟨_, ((x4_94 ++ (⟨#[32]⟩ : ByteArray)) ++ t318), t30_4, H', ⟨t30_13⟩, ⟨t30_3⟩, ⟨t30_5⟩, ⟨t30_2⟩⟩
                     ·rw [if_neg c114] at H
                      exact absurd H (by simp)
                    ·rw [if_neg c112] at H
                     exact absurd H (by simp)
                   ·replace c111 := Bool.eq_false_iff.mpr c111
                    subst c111
                    rw [if_neg (show ¬ (false = true) by decide)] at H
                    have H' := Aside0.mk H
                    clear H
                    go_wp2
                    repeat (go_quiet (fail); try go_wp2)
                    go_meet
                    case rel => exact ⟨_, (x4_94), t30_4, H', ⟨t30_13⟩, ⟨t30_3⟩, ⟨t30_5⟩, ⟨t30_2⟩⟩
                  case rest => as_aux_lemma =>
                   clear HC110
                   (try clear hz63); (try clear hz97)
                   obtain ⟨kq, x4_109, rfl, HA, HJ109, BK311, BK312, HB⟩ := hcut
                   cases kq with
                   | zero => exact absurd HA.out (by simp [cloakroomref14_line.j8])
                   | succ kj109 =>
                    have H := HA.out
                    clear HA
                    simp only [cloakroomref14_line.j8] at H
                    by_cases c117 : a0_0 = 9
                    ·rw [if_pos c117] at H
                     have c117b0 : (a0_0 == 9) = true := beq_iff_eq.mpr c117
                     have c117b1 : (a0_0 != 9) = false := bne_eq_false_iff_eq.mpr c117
                     clear c117
                     by_cases c118 : x4_109.size + 1 ≤ 9223372036854775807
                     ·rw [if_pos c118] at H
                      have c118b0 := eq_true c118
                      have c118b1 : decide (x4_109.size + 1 ≤ 9223372036854775807) = true := decide_eq_true c118
                      try have c118b2 : (9223372036854775807 < x4_109.size + 1) = False := eq_false (Nat.not_lt.2 c118)
                      try (have c118b3 := c118b2; simp only [ByteArray.size_append, x_size_lit, List.size_toArray, List.length_cons, List.length_nil, Nat.zero_add, Nat.reduceAdd] at c118b3)
                      replace H := Option.bind_eq_some_iff.mp H
                      obtain ⟨t319, A1190, H⟩ := H
                      replace H : (if (x4_109 ++ (⟨#[32]⟩ : ByteArray)).size + t319.size ≤ 9223372036854775807 then (if ((x4_109 ++ (⟨#[32]⟩ : ByteArray)) ++ t319).size + 2 ≤ 9223372036854775807 then (if a0_0 ≥ 2 then (if a0_0 ≤ 5 then (if (((x4_109 ++ (⟨#[32]⟩ : ByteArray)) ++ t319) ++ (⟨#[13, 10]⟩ : ByteArray)).size + a0_3.size ≤ 9223372036854775807 then (if ((((x4_109 ++ (⟨#[32]⟩ : ByteArray)) ++ t319) ++ (⟨#[13, 10]⟩ : ByteArray)) ++ a0_3).size + 2 ≤ 9223372036854775807 then (some (((((x4_109 ++ (⟨#[32]⟩ : ByteArray)) ++ t319) ++ (⟨#[13, 10]⟩ : ByteArray)) ++ a0_3) ++ (⟨#[13, 10]⟩ : ByteArray))) else (none)) else (none)) else (if a0_0 = 8 then (if (((x4_109 ++ (⟨#[32]⟩ : ByteArray)) ++ t319) ++ (⟨#[13, 10]⟩ : ByteArray)).size + a0_3.size ≤ 9223372036854775807 then (if ((((x4_109 ++ (⟨#[32]⟩ : ByteArray)) ++ t319) ++ (⟨#[13, 10]⟩ : ByteArray)) ++ a0_3).size + 2 ≤ 9223372036854775807 then (some (((((x4_109 ++ (⟨#[32]⟩ : ByteArray)) ++ t319) ++ (⟨#[13, 10]⟩ : ByteArray)) ++ a0_3) ++ (⟨#[13, 10]⟩ : ByteArray))) else (none)) else (none)) else (some (((x4_109 ++ (⟨#[32]⟩ : ByteArray)) ++ t319) ++ (⟨#[13, 10]⟩ : ByteArray))))) else (if a0_0 = 8 then (if (((x4_109 ++ (⟨#[32]⟩ : ByteArray)) ++ t319) ++ (⟨#[13, 10]⟩ : ByteArray)).size + a0_3.size ≤ 9223372036854775807 then (if ((((x4_109 ++ (⟨#[32]⟩ : ByteArray)) ++ t319) ++ (⟨#[13, 10]⟩ : ByteArray)) ++ a0_3).size + 2 ≤ 9223372036854775807 then (some (((((x4_109 ++ (⟨#[32]⟩ : ByteArray)) ++ t319) ++ (⟨#[13, 10]⟩ : ByteArray)) ++ a0_3) ++ (⟨#[13, 10]⟩ : ByteArray))) else (none)) else (none)) else (some (((x4_109 ++ (⟨#[32]⟩ : ByteArray)) ++ t319) ++ (⟨#[13, 10]⟩ : ByteArray))))) else (none)) else (none)) = some r := H
                      have A119 := Aside0.mk A1190
                      clear A1190
                      by_cases c120 : (x4_109 ++ (⟨#[32]⟩ : ByteArray)).size + t319.size ≤ 9223372036854775807
                      ·rw [if_pos c120] at H
                       have c120b0 := eq_true c120
                       have c120b1 : decide ((x4_109 ++ (⟨#[32]⟩ : ByteArray)).size + t319.size ≤ 9223372036854775807) = true := decide_eq_true c120
                       try have c120b2 : (9223372036854775807 < (x4_109 ++ (⟨#[32]⟩ : ByteArray)).size + t319.size) = False := eq_false (Nat.not_lt.2 c120)
                       try (have c120b3 := c120b2; simp only [ByteArray.size_append, x_size_lit, List.size_toArray, List.length_cons, List.length_nil, Nat.zero_add, Nat.reduceAdd] at c120b3)
                       by_cases c121 : ((x4_109 ++ (⟨#[32]⟩ : ByteArray)) ++ t319).size + 2 ≤ 9223372036854775807
                       ·rw [if_pos c121] at H
                        have c121b0 := eq_true c121
                        have c121b1 : decide (((x4_109 ++ (⟨#[32]⟩ : ByteArray)) ++ t319).size + 2 ≤ 9223372036854775807) = true := decide_eq_true c121
                        try have c121b2 : (9223372036854775807 < ((x4_109 ++ (⟨#[32]⟩ : ByteArray)) ++ t319).size + 2) = False := eq_false (Nat.not_lt.2 c121)
                        try (have c121b3 := c121b2; simp only [ByteArray.size_append, x_size_lit, List.size_toArray, List.length_cons, List.length_nil, Nat.zero_add, Nat.reduceAdd] at c121b3)
                        by_cases c122 : a0_0 ≥ 2
                        ·rw [if_pos c122] at H
                         have c122b0 : decide (2 ≤ a0_0) = true := decide_eq_true c122
                         clear c122
                         by_cases c123 : a0_0 ≤ 5
                         ·rw [if_pos c123] at H
                          have c123b0 : decide (a0_0 ≤ 5) = true := decide_eq_true c123
                          clear c123
                          by_cases c124 : (((x4_109 ++ (⟨#[32]⟩ : ByteArray)) ++ t319) ++ (⟨#[13, 10]⟩ : ByteArray)).size + a0_3.size ≤ 9223372036854775807
                          ·rw [if_pos c124] at H
                           have c124b0 := eq_true c124
                           have c124b1 : decide ((((x4_109 ++ (⟨#[32]⟩ : ByteArray)) ++ t319) ++ (⟨#[13, 10]⟩ : ByteArray)).size + a0_3.size ≤ 9223372036854775807) = true := decide_eq_true c124
                           try have c124b2 : (9223372036854775807 < (((x4_109 ++ (⟨#[32]⟩ : ByteArray)) ++ t319) ++ (⟨#[13, 10]⟩ : ByteArray)).size + a0_3.size) = False := eq_false (Nat.not_lt.2 c124)
                           try (have c124b3 := c124b2; simp only [ByteArray.size_append, x_size_lit, List.size_toArray, List.length_cons, List.length_nil, Nat.zero_add, Nat.reduceAdd] at c124b3)
                           by_cases c125 : ((((x4_109 ++ (⟨#[32]⟩ : ByteArray)) ++ t319) ++ (⟨#[13, 10]⟩ : ByteArray)) ++ a0_3).size + 2 ≤ 9223372036854775807
                           ·rw [if_pos c125] at H
                            have c125b0 := eq_true c125
                            have c125b1 : decide (((((x4_109 ++ (⟨#[32]⟩ : ByteArray)) ++ t319) ++ (⟨#[13, 10]⟩ : ByteArray)) ++ a0_3).size + 2 ≤ 9223372036854775807) = true := decide_eq_true c125
                            try have c125b2 : (9223372036854775807 < ((((x4_109 ++ (⟨#[32]⟩ : ByteArray)) ++ t319) ++ (⟨#[13, 10]⟩ : ByteArray)) ++ a0_3).size + 2) = False := eq_false (Nat.not_lt.2 c125)
                            try (have c125b3 := c125b2; simp only [ByteArray.size_append, x_size_lit, List.size_toArray, List.length_cons, List.length_nil, Nat.zero_add, Nat.reduceAdd] at c125b3)
                            obtain rfl := Option.some.inj H
                            have hnb126 := NB311_312.out
                            have hnc126 := NB312_311.out
                            have hz127 := blk8 BK311.out
                            go_wp2_with (first | (go_at_call 42; (with_reducible refine (cloakroomref09_Text.calls kj109 (IntKind.u64.wrap (a0_5)) t319 _ A119.out).mono ?_); rintro e w' ⟨rfl, ⟨nd, rfl⟩⟩; (try first | exact ⟨rfl, _, World.drewN_drewN _ _ _⟩ | exact ⟨rfl, _, Eq.trans (World.drewN_drewN _ _ _) (congrArg (World.drewN _) (Nat.add_assoc _ _ _))⟩)))
                            repeat (go_quiet (first | (go_at_call 42; (with_reducible refine (cloakroomref09_Text.calls kj109 (IntKind.u64.wrap (a0_5)) t319 _ A119.out).mono ?_); rintro e w' ⟨rfl, ⟨nd, rfl⟩⟩; (try first | exact ⟨rfl, _, World.drewN_drewN _ _ _⟩ | exact ⟨rfl, _, Eq.trans (World.drewN_drewN _ _ _) (congrArg (World.drewN _) (Nat.add_assoc _ _ _))⟩))); try go_wp2_with (first | (go_at_call 42; (with_reducible refine (cloakroomref09_Text.calls kj109 (IntKind.u64.wrap (a0_5)) t319 _ A119.out).mono ?_); rintro e w' ⟨rfl, ⟨nd, rfl⟩⟩; (try first | exact ⟨rfl, _, World.drewN_drewN _ _ _⟩ | exact ⟨rfl, _, Eq.trans (World.drewN_drewN _ _ _) (congrArg (World.drewN _) (Nat.add_assoc _ _ _))⟩))))
                            go_ret
                            exact ⟨t30_8, t30_2⟩
                           ·rw [if_neg c125] at H
                            exact absurd H (by simp)
                          ·rw [if_neg c124] at H
                           exact absurd H (by simp)
                         ·rw [if_neg c123] at H
                          have c123b0 : decide (a0_0 ≤ 5) = false := decide_eq_false c123
                          clear c123
                          by_cases c128 : a0_0 = 8
                          ·rw [if_pos c128] at H
                           have c128b0 : (a0_0 == 8) = true := beq_iff_eq.mpr c128
                           have c128b1 : (a0_0 != 8) = false := bne_eq_false_iff_eq.mpr c128
                           clear c128
                           by_cases c129 : (((x4_109 ++ (⟨#[32]⟩ : ByteArray)) ++ t319) ++ (⟨#[13, 10]⟩ : ByteArray)).size + a0_3.size ≤ 9223372036854775807
                           ·rw [if_pos c129] at H
                            have c129b0 := eq_true c129
                            have c129b1 : decide ((((x4_109 ++ (⟨#[32]⟩ : ByteArray)) ++ t319) ++ (⟨#[13, 10]⟩ : ByteArray)).size + a0_3.size ≤ 9223372036854775807) = true := decide_eq_true c129
                            try have c129b2 : (9223372036854775807 < (((x4_109 ++ (⟨#[32]⟩ : ByteArray)) ++ t319) ++ (⟨#[13, 10]⟩ : ByteArray)).size + a0_3.size) = False := eq_false (Nat.not_lt.2 c129)
                            try (have c129b3 := c129b2; simp only [ByteArray.size_append, x_size_lit, List.size_toArray, List.length_cons, List.length_nil, Nat.zero_add, Nat.reduceAdd] at c129b3)
                            by_cases c130 : ((((x4_109 ++ (⟨#[32]⟩ : ByteArray)) ++ t319) ++ (⟨#[13, 10]⟩ : ByteArray)) ++ a0_3).size + 2 ≤ 9223372036854775807
                            ·rw [if_pos c130] at H
                             have c130b0 := eq_true c130
                             have c130b1 : decide (((((x4_109 ++ (⟨#[32]⟩ : ByteArray)) ++ t319) ++ (⟨#[13, 10]⟩ : ByteArray)) ++ a0_3).size + 2 ≤ 9223372036854775807) = true := decide_eq_true c130
                             try have c130b2 : (9223372036854775807 < ((((x4_109 ++ (⟨#[32]⟩ : ByteArray)) ++ t319) ++ (⟨#[13, 10]⟩ : ByteArray)) ++ a0_3).size + 2) = False := eq_false (Nat.not_lt.2 c130)
                             try (have c130b3 := c130b2; simp only [ByteArray.size_append, x_size_lit, List.size_toArray, List.length_cons, List.length_nil, Nat.zero_add, Nat.reduceAdd] at c130b3)
                             obtain rfl := Option.some.inj H
                             have hnb131 := NB311_312.out
                             have hnc131 := NB312_311.out
                             have hz132 := blk8 BK311.out
                             go_wp2_with (first | (go_at_call 42; (with_reducible refine (cloakroomref09_Text.calls kj109 (IntKind.u64.wrap (a0_5)) t319 _ A119.out).mono ?_); rintro e w' ⟨rfl, ⟨nd, rfl⟩⟩; (try first | exact ⟨rfl, _, World.drewN_drewN _ _ _⟩ | exact ⟨rfl, _, Eq.trans (World.drewN_drewN _ _ _) (congrArg (World.drewN _) (Nat.add_assoc _ _ _))⟩)))
                             repeat (go_quiet (first | (go_at_call 42; (with_reducible refine (cloakroomref09_Text.calls kj109 (IntKind.u64.wrap (a0_5)) t319 _ A119.out).mono ?_); rintro e w' ⟨rfl, ⟨nd, rfl⟩⟩; (try first | exact ⟨rfl, _, World.drewN_drewN _ _ _⟩ | exact ⟨rfl, _, Eq.trans (World.drewN_drewN _ _ _) (congrArg (World.drewN _) (Nat.add_assoc _ _ _))⟩))); try go_wp2_with (first | (go_at_call 42; (with_reducible refine (cloakroomref09_Text.calls kj109 (IntKind.u64.wrap (a0_5)) t319 _ A119.out).mono ?_); rintro e w' ⟨rfl, ⟨nd, rfl⟩⟩; (try first | exact ⟨rfl, _, World.drewN_drewN _ _ _⟩ | exact ⟨rfl, _, Eq.trans (World.drewN_drewN _ _ _) (congrArg (World.drewN _) (Nat.add_assoc _ _ _))⟩))))
                             go_ret
                             exact ⟨t30_8, t30_2⟩
                            ·rw [if_neg c130] at H
                             exact absurd H (by simp)
                           ·rw [if_neg c129] at H
                            exact absurd H (by simp)
                          ·rw [if_neg c128] at H
                           have c128b0 : (a0_0 == 8) = false := beq_eq_false_iff_ne.mpr c128
                           have c128b1 : (a0_0 != 8) = true := bne_iff_ne.mpr c128
                           obtain rfl := Option.some.inj H
                           have hnb133 := NB311_312.out
                           have hnc133 := NB312_311.out
                           have hz134 := blk8 BK311.out
                           go_wp2_with (first | (go_at_call 42; (with_reducible refine (cloakroomref09_Text.calls kj109 (IntKind.u64.wrap (a0_5)) t319 _ A119.out).mono ?_); rintro e w' ⟨rfl, ⟨nd, rfl⟩⟩; (try first | exact ⟨rfl, _, World.drewN_drewN _ _ _⟩ | exact ⟨rfl, _, Eq.trans (World.drewN_drewN _ _ _) (congrArg (World.drewN _) (Nat.add_assoc _ _ _))⟩)))
                           repeat (go_quiet (first | (go_at_call 42; (with_reducible refine (cloakroomref09_Text.calls kj109 (IntKind.u64.wrap (a0_5)) t319 _ A119.out).mono ?_); rintro e w' ⟨rfl, ⟨nd, rfl⟩⟩; (try first | exact ⟨rfl, _, World.drewN_drewN _ _ _⟩ | exact ⟨rfl, _, Eq.trans (World.drewN_drewN _ _ _) (congrArg (World.drewN _) (Nat.add_assoc _ _ _))⟩))); try go_wp2_with (first | (go_at_call 42; (with_reducible refine (cloakroomref09_Text.calls kj109 (IntKind.u64.wrap (a0_5)) t319 _ A119.out).mono ?_); rintro e w' ⟨rfl, ⟨nd, rfl⟩⟩; (try first | exact ⟨rfl, _, World.drewN_drewN _ _ _⟩ | exact ⟨rfl, _, Eq.trans (World.drewN_drewN _ _ _) (congrArg (World.drewN _) (Nat.add_assoc _ _ _))⟩))))
                           go_ret
                           exact ⟨t30_8, t30_2⟩
                        ·rw [if_neg c122] at H
                         have c122b0 : decide (2 ≤ a0_0) = false := decide_eq_false c122
                         clear c122
                         by_cases c135 : a0_0 = 8
                         ·rw [if_pos c135] at H
                          have c135b0 : (a0_0 == 8) = true := beq_iff_eq.mpr c135
                          have c135b1 : (a0_0 != 8) = false := bne_eq_false_iff_eq.mpr c135
                          clear c135
                          by_cases c136 : (((x4_109 ++ (⟨#[32]⟩ : ByteArray)) ++ t319) ++ (⟨#[13, 10]⟩ : ByteArray)).size + a0_3.size ≤ 9223372036854775807
                          ·rw [if_pos c136] at H
                           have c136b0 := eq_true c136
                           have c136b1 : decide ((((x4_109 ++ (⟨#[32]⟩ : ByteArray)) ++ t319) ++ (⟨#[13, 10]⟩ : ByteArray)).size + a0_3.size ≤ 9223372036854775807) = true := decide_eq_true c136
                           try have c136b2 : (9223372036854775807 < (((x4_109 ++ (⟨#[32]⟩ : ByteArray)) ++ t319) ++ (⟨#[13, 10]⟩ : ByteArray)).size + a0_3.size) = False := eq_false (Nat.not_lt.2 c136)
                           try (have c136b3 := c136b2; simp only [ByteArray.size_append, x_size_lit, List.size_toArray, List.length_cons, List.length_nil, Nat.zero_add, Nat.reduceAdd] at c136b3)
                           by_cases c137 : ((((x4_109 ++ (⟨#[32]⟩ : ByteArray)) ++ t319) ++ (⟨#[13, 10]⟩ : ByteArray)) ++ a0_3).size + 2 ≤ 9223372036854775807
                           ·rw [if_pos c137] at H
                            have c137b0 := eq_true c137
                            have c137b1 : decide (((((x4_109 ++ (⟨#[32]⟩ : ByteArray)) ++ t319) ++ (⟨#[13, 10]⟩ : ByteArray)) ++ a0_3).size + 2 ≤ 9223372036854775807) = true := decide_eq_true c137
                            try have c137b2 : (9223372036854775807 < ((((x4_109 ++ (⟨#[32]⟩ : ByteArray)) ++ t319) ++ (⟨#[13, 10]⟩ : ByteArray)) ++ a0_3).size + 2) = False := eq_false (Nat.not_lt.2 c137)
                            try (have c137b3 := c137b2; simp only [ByteArray.size_append, x_size_lit, List.size_toArray, List.length_cons, List.length_nil, Nat.zero_add, Nat.reduceAdd] at c137b3)
                            obtain rfl := Option.some.inj H
                            have hnb138 := NB311_312.out
                            have hnc138 := NB312_311.out
                            have hz139 := blk8 BK311.out
                            go_wp2_with (first | (go_at_call 42; (with_reducible refine (cloakroomref09_Text.calls kj109 (IntKind.u64.wrap (a0_5)) t319 _ A119.out).mono ?_); rintro e w' ⟨rfl, ⟨nd, rfl⟩⟩; (try first | exact ⟨rfl, _, World.drewN_drewN _ _ _⟩ | exact ⟨rfl, _, Eq.trans (World.drewN_drewN _ _ _) (congrArg (World.drewN _) (Nat.add_assoc _ _ _))⟩)))
                            repeat (go_quiet (first | (go_at_call 42; (with_reducible refine (cloakroomref09_Text.calls kj109 (IntKind.u64.wrap (a0_5)) t319 _ A119.out).mono ?_); rintro e w' ⟨rfl, ⟨nd, rfl⟩⟩; (try first | exact ⟨rfl, _, World.drewN_drewN _ _ _⟩ | exact ⟨rfl, _, Eq.trans (World.drewN_drewN _ _ _) (congrArg (World.drewN _) (Nat.add_assoc _ _ _))⟩))); try go_wp2_with (first | (go_at_call 42; (with_reducible refine (cloakroomref09_Text.calls kj109 (IntKind.u64.wrap (a0_5)) t319 _ A119.out).mono ?_); rintro e w' ⟨rfl, ⟨nd, rfl⟩⟩; (try first | exact ⟨rfl, _, World.drewN_drewN _ _ _⟩ | exact ⟨rfl, _, Eq.trans (World.drewN_drewN _ _ _) (congrArg (World.drewN _) (Nat.add_assoc _ _ _))⟩))))
                            go_ret
                            exact ⟨t30_8, t30_2⟩
                           ·rw [if_neg c137] at H
                            exact absurd H (by simp)
                          ·rw [if_neg c136] at H
                           exact absurd H (by simp)
                         ·rw [if_neg c135] at H
                          have c135b0 : (a0_0 == 8) = false := beq_eq_false_iff_ne.mpr c135
                          have c135b1 : (a0_0 != 8) = true := bne_iff_ne.mpr c135
                          obtain rfl := Option.some.inj H
                          have hnb140 := NB311_312.out
                          have hnc140 := NB312_311.out
                          have hz141 := blk8 BK311.out
                          go_wp2_with (first | (go_at_call 42; (with_reducible refine (cloakroomref09_Text.calls kj109 (IntKind.u64.wrap (a0_5)) t319 _ A119.out).mono ?_); rintro e w' ⟨rfl, ⟨nd, rfl⟩⟩; (try first | exact ⟨rfl, _, World.drewN_drewN _ _ _⟩ | exact ⟨rfl, _, Eq.trans (World.drewN_drewN _ _ _) (congrArg (World.drewN _) (Nat.add_assoc _ _ _))⟩)))
                          repeat (go_quiet (first | (go_at_call 42; (with_reducible refine (cloakroomref09_Text.calls kj109 (IntKind.u64.wrap (a0_5)) t319 _ A119.out).mono ?_); rintro e w' ⟨rfl, ⟨nd, rfl⟩⟩; (try first | exact ⟨rfl, _, World.drewN_drewN _ _ _⟩ | exact ⟨rfl, _, Eq.trans (World.drewN_drewN _ _ _) (congrArg (World.drewN _) (Nat.add_assoc _ _ _))⟩))); try go_wp2_with (first | (go_at_call 42; (with_reducible refine (cloakroomref09_Text.calls kj109 (IntKind.u64.wrap (a0_5)) t319 _ A119.out).mono ?_); rintro e w' ⟨rfl, ⟨nd, rfl⟩⟩; (try first | exact ⟨rfl, _, World.drewN_drewN _ _ _⟩ | exact ⟨rfl, _, Eq.trans (World.drewN_drewN _ _ _) (congrArg (World.drewN _) (Nat.add_assoc _ _ _))⟩))))
                          go_ret
                          exact ⟨t30_8, t30_2⟩
                       ·rw [if_neg c121] at H
                        exact absurd H (by simp)
                      ·rw [if_neg c120] at H
                       exact absurd H (by simp)
                     ·rw [if_neg c118] at H
                      exact absurd H (by simp)
                    ·rw [if_neg c117] at H
                     have c117b0 : (a0_0 == 9) = false := beq_eq_false_iff_ne.mpr c117
                     have c117b1 : (a0_0 != 9) = true := bne_iff_ne.mpr c117
                     by_cases c142 : x4_109.size + 2 ≤ 9223372036854775807
                     ·rw [if_pos c142] at H
                      have c142b0 := eq_true c142
                      have c142b1 : decide (x4_109.size + 2 ≤ 9223372036854775807) = true := decide_eq_true c142
                      try have c142b2 : (9223372036854775807 < x4_109.size + 2) = False := eq_false (Nat.not_lt.2 c142)
                      try (have c142b3 := c142b2; simp only [ByteArray.size_append, x_size_lit, List.size_toArray, List.length_cons, List.length_nil, Nat.zero_add, Nat.reduceAdd] at c142b3)
                      by_cases c143 : a0_0 ≥ 2
                      ·rw [if_pos c143] at H
                       have c143b0 : decide (2 ≤ a0_0) = true := decide_eq_true c143
                       clear c143
                       by_cases c144 : a0_0 ≤ 5
                       ·rw [if_pos c144] at H
                        have c144b0 : decide (a0_0 ≤ 5) = true := decide_eq_true c144
                        clear c144
                        by_cases c145 : (x4_109 ++ (⟨#[13, 10]⟩ : ByteArray)).size + a0_3.size ≤ 9223372036854775807
                        ·rw [if_pos c145] at H
                         have c145b0 := eq_true c145
                         have c145b1 : decide ((x4_109 ++ (⟨#[13, 10]⟩ : ByteArray)).size + a0_3.size ≤ 9223372036854775807) = true := decide_eq_true c145
                         try have c145b2 : (9223372036854775807 < (x4_109 ++ (⟨#[13, 10]⟩ : ByteArray)).size + a0_3.size) = False := eq_false (Nat.not_lt.2 c145)
                         try (have c145b3 := c145b2; simp only [ByteArray.size_append, x_size_lit, List.size_toArray, List.length_cons, List.length_nil, Nat.zero_add, Nat.reduceAdd] at c145b3)
                         by_cases c146 : ((x4_109 ++ (⟨#[13, 10]⟩ : ByteArray)) ++ a0_3).size + 2 ≤ 9223372036854775807
                         ·rw [if_pos c146] at H
                          have c146b0 := eq_true c146
                          have c146b1 : decide (((x4_109 ++ (⟨#[13, 10]⟩ : ByteArray)) ++ a0_3).size + 2 ≤ 9223372036854775807) = true := decide_eq_true c146
                          try have c146b2 : (9223372036854775807 < ((x4_109 ++ (⟨#[13, 10]⟩ : ByteArray)) ++ a0_3).size + 2) = False := eq_false (Nat.not_lt.2 c146)
                          try (have c146b3 := c146b2; simp only [ByteArray.size_append, x_size_lit, List.size_toArray, List.length_cons, List.length_nil, Nat.zero_add, Nat.reduceAdd] at c146b3)
                          obtain rfl := Option.some.inj H
                          have hnb147 := NB311_312.out
                          have hnc147 := NB312_311.out
                          have hz148 := blk8 BK311.out
                          go_wp2
                          repeat (go_quiet (fail); try go_wp2)
                          go_ret
                          exact ⟨t30_8, t30_2⟩
                         ·rw [if_neg c146] at H
                          exact absurd H (by simp)
                        ·rw [if_neg c145] at H
                         exact absurd H (by simp)
                       ·rw [if_neg c144] at H
                        have c144b0 : decide (a0_0 ≤ 5) = false := decide_eq_false c144
                        clear c144
                        by_cases c149 : a0_0 = 8
                        ·rw [if_pos c149] at H
                         have c149b0 : (a0_0 == 8) = true := beq_iff_eq.mpr c149
                         have c149b1 : (a0_0 != 8) = false := bne_eq_false_iff_eq.mpr c149
                         clear c149
                         by_cases c150 : (x4_109 ++ (⟨#[13, 10]⟩ : ByteArray)).size + a0_3.size ≤ 9223372036854775807
                         ·rw [if_pos c150] at H
                          have c150b0 := eq_true c150
                          have c150b1 : decide ((x4_109 ++ (⟨#[13, 10]⟩ : ByteArray)).size + a0_3.size ≤ 9223372036854775807) = true := decide_eq_true c150
                          try have c150b2 : (9223372036854775807 < (x4_109 ++ (⟨#[13, 10]⟩ : ByteArray)).size + a0_3.size) = False := eq_false (Nat.not_lt.2 c150)
                          try (have c150b3 := c150b2; simp only [ByteArray.size_append, x_size_lit, List.size_toArray, List.length_cons, List.length_nil, Nat.zero_add, Nat.reduceAdd] at c150b3)
                          by_cases c151 : ((x4_109 ++ (⟨#[13, 10]⟩ : ByteArray)) ++ a0_3).size + 2 ≤ 9223372036854775807
                          ·rw [if_pos c151] at H
                           have c151b0 := eq_true c151
                           have c151b1 : decide (((x4_109 ++ (⟨#[13, 10]⟩ : ByteArray)) ++ a0_3).size + 2 ≤ 9223372036854775807) = true := decide_eq_true c151
                           try have c151b2 : (9223372036854775807 < ((x4_109 ++ (⟨#[13, 10]⟩ : ByteArray)) ++ a0_3).size + 2) = False := eq_false (Nat.not_lt.2 c151)
                           try (have c151b3 := c151b2; simp only [ByteArray.size_append, x_size_lit, List.size_toArray, List.length_cons, List.length_nil, Nat.zero_add, Nat.reduceAdd] at c151b3)
                           obtain rfl := Option.some.inj H
                           have hnb152 := NB311_312.out
                           have hnc152 := NB312_311.out
                           have hz153 := blk8 BK311.out
                           go_wp2
                           repeat (go_quiet (fail); try go_wp2)
                           go_ret
                           exact ⟨t30_8, t30_2⟩
                          ·rw [if_neg c151] at H
                           exact absurd H (by simp)
                         ·rw [if_neg c150] at H
                          exact absurd H (by simp)
                        ·rw [if_neg c149] at H
                         have c149b0 : (a0_0 == 8) = false := beq_eq_false_iff_ne.mpr c149
                         have c149b1 : (a0_0 != 8) = true := bne_iff_ne.mpr c149
                         obtain rfl := Option.some.inj H
                         have hnb154 := NB311_312.out
                         have hnc154 := NB312_311.out
                         have hz155 := blk8 BK311.out
                         go_wp2
                         repeat (go_quiet (fail); try go_wp2)
                         go_ret
                         exact ⟨t30_8, t30_2⟩
                      ·rw [if_neg c143] at H
                       have c143b0 : decide (2 ≤ a0_0) = false := decide_eq_false c143
                       clear c143
                       by_cases c156 : a0_0 = 8
                       ·rw [if_pos c156] at H
                        have c156b0 : (a0_0 == 8) = true := beq_iff_eq.mpr c156
                        have c156b1 : (a0_0 != 8) = false := bne_eq_false_iff_eq.mpr c156
                        clear c156
                        by_cases c157 : (x4_109 ++ (⟨#[13, 10]⟩ : ByteArray)).size + a0_3.size ≤ 9223372036854775807
                        ·rw [if_pos c157] at H
                         have c157b0 := eq_true c157
                         have c157b1 : decide ((x4_109 ++ (⟨#[13, 10]⟩ : ByteArray)).size + a0_3.size ≤ 9223372036854775807) = true := decide_eq_true c157
                         try have c157b2 : (9223372036854775807 < (x4_109 ++ (⟨#[13, 10]⟩ : ByteArray)).size + a0_3.size) = False := eq_false (Nat.not_lt.2 c157)
                         try (have c157b3 := c157b2; simp only [ByteArray.size_append, x_size_lit, List.size_toArray, List.length_cons, List.length_nil, Nat.zero_add, Nat.reduceAdd] at c157b3)
                         by_cases c158 : ((x4_109 ++ (⟨#[13, 10]⟩ : ByteArray)) ++ a0_3).size + 2 ≤ 9223372036854775807
                         ·rw [if_pos c158] at H
                          have c158b0 := eq_true c158
                          have c158b1 : decide (((x4_109 ++ (⟨#[13, 10]⟩ : ByteArray)) ++ a0_3).size + 2 ≤ 9223372036854775807) = true := decide_eq_true c158
                          try have c158b2 : (9223372036854775807 < ((x4_109 ++ (⟨#[13, 10]⟩ : ByteArray)) ++ a0_3).size + 2) = False := eq_false (Nat.not_lt.2 c158)
                          try (have c158b3 := c158b2; simp only [ByteArray.size_append, x_size_lit, List.size_toArray, List.length_cons, List.length_nil, Nat.zero_add, Nat.reduceAdd] at c158b3)
                          obtain rfl := Option.some.inj H
                          have hnb159 := NB311_312.out
                          have hnc159 := NB312_311.out
                          have hz160 := blk8 BK311.out
                          go_wp2
                          repeat (go_quiet (fail); try go_wp2)
                          go_ret
                          exact ⟨t30_8, t30_2⟩
                         ·rw [if_neg c158] at H
                          exact absurd H (by simp)
                        ·rw [if_neg c157] at H
                         exact absurd H (by simp)
                       ·rw [if_neg c156] at H
                        have c156b0 : (a0_0 == 8) = false := beq_eq_false_iff_ne.mpr c156
                        have c156b1 : (a0_0 != 8) = true := bne_iff_ne.mpr c156
                        obtain rfl := Option.some.inj H
                        have hnb161 := NB311_312.out
                        have hnc161 := NB312_311.out
                        have hz162 := blk8 BK311.out
                        go_wp2
                        repeat (go_quiet (fail); try go_wp2)
                        go_ret
                        exact ⟨t30_8, t30_2⟩
                     ·rw [if_neg c142] at H
                      exact absurd H (by simp)
end Go.Proofs.YtfoengihiaegoaaDoor.P
