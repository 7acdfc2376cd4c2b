/- Joined by program (merge.py): the parts A0, A1, A2, A3, A4, A5, A6, A7, A8. -/
import Derived.Test.YteicmeojabemhaaDoorProg
import Derived.KernelRfl
import Derived.Test.YteicmeojabemhaaDoorX01
/- The array seat: the context, the types. -/
section
set_option linter.unusedSimpArgs false
namespace Go.VL
open Go Go.Proofs

def tabN : List Nat := [0, 1, 56, 2, 57, 49, 28, 3, 61, 58, 42, 50, 38, 29, 17, 4, 62, 47, 59, 36, 45, 43, 51, 22, 53, 39, 33, 30, 24, 18, 12, 5, 63, 55, 48, 27, 60, 41, 37, 16, 46, 35, 44, 21, 52, 32, 23, 11, 54, 26, 40, 15, 34, 20, 31, 10, 25, 14, 19, 9, 13, 8, 7, 6]
def tabV : List V := tabN.map fun (n : Nat) => V.int .u8 n
noncomputable def D : Cx := { P := Tryd.prog, G := [(1, tabV)] }
theorem D_G : D.G = [(1, tabV)] := rfl
theorem D_P : D.P = Tryd.prog := rfl
theorem D_mixed : D.P.follows .mixedOrders = true := by rw [D_P]; kernel_rfl

theorem ty2 : tyi Tryd.prog 2 = some ⟨.int .i64, 1, 8, some (.int .i64 0)⟩ := by kernel_rfl
theorem ty3 : tyi Tryd.prog 3 = some ⟨.int .i64, 1, 8, some (.int .i64 0)⟩ := by kernel_rfl
theorem ty4 : tyi Tryd.prog 4 = some ⟨.bool, 1, 1, some (.bool false)⟩ := by kernel_rfl
theorem ty5 : tyi Tryd.prog 5 = some ⟨.int .u8, 1, 1, some (.int .u8 0)⟩ := by kernel_rfl
theorem ty6 : tyi Tryd.prog 6 = some ⟨.int .u8, 1, 1, some (.int .u8 0)⟩ := by kernel_rfl
theorem ty7 : tyi Tryd.prog 7 = some ⟨.struct [(0, 1, 2), (1, 1, 3), (2, 1, 4), (3, 1, 6)], 4, 24, some (.agg #[(.int .i64 0), (.int .i64 0), (.bool false), (.int .u8 0)])⟩ := by kernel_rfl
theorem ty8 : tyi Tryd.prog 8 = some ⟨.struct [(0, 1, 2), (1, 1, 3), (2, 1, 4), (3, 1, 6)], 4, 24, some (.agg #[(.int .i64 0), (.int .i64 0), (.bool false), (.int .u8 0)])⟩ := by kernel_rfl
theorem ty9 : tyi Tryd.prog 9 = some ⟨.str, 1, 16, some (.string ⟨#[]⟩)⟩ := by kernel_rfl
theorem ty10 : tyi Tryd.prog 10 = some ⟨.str, 1, 16, some (.string ⟨#[]⟩)⟩ := by kernel_rfl
theorem ty11 : tyi Tryd.prog 11 = some ⟨.str, 1, 16, some (.string ⟨#[]⟩)⟩ := by kernel_rfl
theorem ty12 : tyi Tryd.prog 12 = some ⟨.int .u64, 1, 8, some (.int .u64 0)⟩ := by kernel_rfl
theorem ty13 : tyi Tryd.prog 13 = some ⟨.struct [(0, 1, 9), (1, 1, 12)], 2, 24, some (.agg #[(.string ⟨#[]⟩), (.int .u64 0)])⟩ := by kernel_rfl
theorem ty14 : tyi Tryd.prog 14 = some ⟨.struct [(0, 1, 9), (1, 1, 12)], 2, 24, some (.agg #[(.string ⟨#[]⟩), (.int .u64 0)])⟩ := by kernel_rfl
theorem ty15 : tyi Tryd.prog 15 = some ⟨.ptr, 1, 8, some (.pointer none)⟩ := by kernel_rfl
theorem ty16 : tyi Tryd.prog 16 = some ⟨.ptr, 1, 8, some (.pointer none)⟩ := by kernel_rfl
theorem ty17 : tyi Tryd.prog 17 = some ⟨.ptr, 1, 8, some (.pointer none)⟩ := by kernel_rfl
theorem ty18 : tyi Tryd.prog 18 = some ⟨.struct [(0, 1, 17)], 1, 8, some (.agg #[(.pointer none)])⟩ := by kernel_rfl
theorem ty19 : tyi Tryd.prog 19 = some ⟨.struct [(0, 1, 17)], 1, 8, some (.agg #[(.pointer none)])⟩ := by kernel_rfl
theorem ty21 : tyi Tryd.prog 21 = some ⟨.int .i32, 1, 4, some (.int .i32 0)⟩ := by kernel_rfl
theorem ty22 : tyi Tryd.prog 22 = some ⟨.slice 5, 1, 24, some (.slice none 0 0)⟩ := by kernel_rfl
theorem ty23 : tyi Tryd.prog 23 = some ⟨.struct [(0, 1, 5), (1, 1, 5), (2, 1, 5), (3, 1, 5), (4, 1, 22)], 5, 32, some (.agg #[(.int .u8 0), (.int .u8 0), (.int .u8 0), (.int .u8 0), (.slice none 0 0)])⟩ := by kernel_rfl
theorem ty24 : tyi Tryd.prog 24 = some ⟨.struct [(0, 1, 5), (1, 1, 5), (2, 1, 5), (3, 1, 5), (4, 1, 22)], 5, 32, some (.agg #[(.int .u8 0), (.int .u8 0), (.int .u8 0), (.int .u8 0), (.slice none 0 0)])⟩ := by kernel_rfl
theorem ty25 : tyi Tryd.prog 25 = some ⟨.array 5 5, 5, 5, some (.agg #[(.int .u8 0), (.int .u8 0), (.int .u8 0), (.int .u8 0), (.int .u8 0)])⟩ := by kernel_rfl
theorem ty27 : tyi Tryd.prog 27 = some ⟨.slice 31, 1, 24, some (.slice none 0 0)⟩ := by kernel_rfl
theorem ty28 : tyi Tryd.prog 28 = some ⟨.struct [(0, 1, 3), (1, 1, 27)], 2, 32, some (.agg #[(.int .i64 0), (.slice none 0 0)])⟩ := by kernel_rfl
theorem ty29 : tyi Tryd.prog 29 = some ⟨.struct [(0, 1, 3), (1, 1, 27)], 2, 32, some (.agg #[(.int .i64 0), (.slice none 0 0)])⟩ := by kernel_rfl
theorem ty31 : tyi Tryd.prog 31 = some ⟨.slice 3, 1, 24, some (.slice none 0 0)⟩ := by kernel_rfl
theorem ty35 : tyi Tryd.prog 35 = some ⟨.int .u64, 1, 8, some (.int .u64 0)⟩ := by kernel_rfl
theorem ty38 : tyi Tryd.prog 38 = some ⟨.array 6 5, 6, 6, some (.agg #[(.int .u8 0), (.int .u8 0), (.int .u8 0), (.int .u8 0), (.int .u8 0), (.int .u8 0)])⟩ := by kernel_rfl
theorem ty40 : tyi Tryd.prog 40 = some ⟨.int .i64, 1, 8, some (.int .i64 0)⟩ := by kernel_rfl
theorem ty41 : tyi Tryd.prog 41 = some ⟨.struct [(0, 2, 29), (2, 1, 40)], 3, 40, some (.agg #[(.int .i64 0), (.slice none 0 0), (.int .i64 0)])⟩ := by kernel_rfl
theorem ty42 : tyi Tryd.prog 42 = some ⟨.struct [(0, 2, 29), (2, 1, 40)], 3, 40, some (.agg #[(.int .i64 0), (.slice none 0 0), (.int .i64 0)])⟩ := by kernel_rfl
theorem ty48 : tyi Tryd.prog 48 = some ⟨.slice 51, 1, 24, some (.slice none 0 0)⟩ := by kernel_rfl
theorem ty49 : tyi Tryd.prog 49 = some ⟨.slice 27, 1, 24, some (.slice none 0 0)⟩ := by kernel_rfl
theorem ty51 : tyi Tryd.prog 51 = some ⟨.array 2 5, 2, 2, some (.agg #[(.int .u8 0), (.int .u8 0)])⟩ := by kernel_rfl
theorem ty64 : tyi Tryd.prog 64 = some ⟨.map 77 3, 1, 8, some (.map none)⟩ := by kernel_rfl
theorem ty71 : tyi Tryd.prog 71 = some ⟨.slice 4, 1, 24, some (.slice none 0 0)⟩ := by kernel_rfl
theorem ty74 : tyi Tryd.prog 74 = some ⟨.int .i8, 1, 1, some (.int .i8 0)⟩ := by kernel_rfl
theorem ty75 : tyi Tryd.prog 75 = some ⟨.array 8 74, 8, 8, some (.agg #[(.int .i8 0), (.int .i8 0), (.int .i8 0), (.int .i8 0), (.int .i8 0), (.int .i8 0), (.int .i8 0), (.int .i8 0)])⟩ := by kernel_rfl
theorem ty76 : tyi Tryd.prog 76 = some ⟨.struct [(0, 1, 35), (1, 8, 75)], 9, 16, some (.agg #[(.int .u64 0), (.int .i8 0), (.int .i8 0), (.int .i8 0), (.int .i8 0), (.int .i8 0), (.int .i8 0), (.int .i8 0), (.int .i8 0)])⟩ := by kernel_rfl
theorem ty77 : tyi Tryd.prog 77 = some ⟨.struct [(0, 1, 35), (1, 8, 75)], 9, 16, some (.agg #[(.int .u64 0), (.int .i8 0), (.int .i8 0), (.int .i8 0), (.int .i8 0), (.int .i8 0), (.int .i8 0), (.int .i8 0), (.int .i8 0)])⟩ := by kernel_rfl
theorem ty87 : tyi Tryd.prog 87 = some ⟨.map 77 4, 1, 8, some (.map none)⟩ := by kernel_rfl
theorem ty95 : tyi Tryd.prog 95 = some ⟨.slice 35, 1, 24, some (.slice none 0 0)⟩ := by kernel_rfl
theorem ty102 : tyi Tryd.prog 102 = some ⟨.int .u32, 1, 4, some (.int .u32 0)⟩ := by kernel_rfl
theorem ty104 : tyi Tryd.prog 104 = some ⟨.int .u64, 1, 8, some (.int .u64 0)⟩ := by kernel_rfl
theorem ty112 : tyi Tryd.prog 112 = some ⟨.int .i64, 1, 8, some (.int .i64 0)⟩ := by kernel_rfl
theorem ty119 : tyi Tryd.prog 119 = some ⟨.array 32 5, 32, 32, some (.agg #[(.int .u8 0), (.int .u8 0), (.int .u8 0), (.int .u8 0), (.int .u8 0), (.int .u8 0), (.int .u8 0), (.int .u8 0), (.int .u8 0), (.int .u8 0), (.int .u8 0), (.int .u8 0), (.int .u8 0), (.int .u8 0), (.int .u8 0), (.int .u8 0), (.int .u8 0), (.int .u8 0), (.int .u8 0), (.int .u8 0), (.int .u8 0), (.int .u8 0), (.int .u8 0), (.int .u8 0), (.int .u8 0), (.int .u8 0), (.int .u8 0), (.int .u8 0), (.int .u8 0), (.int .u8 0), (.int .u8 0), (.int .u8 0)])⟩ := by kernel_rfl
theorem ty120 : tyi Tryd.prog 120 = some ⟨.array 64 5, 64, 64, some (.agg #[(.int .u8 0), (.int .u8 0), (.int .u8 0), (.int .u8 0), (.int .u8 0), (.int .u8 0), (.int .u8 0), (.int .u8 0), (.int .u8 0), (.int .u8 0), (.int .u8 0), (.int .u8 0), (.int .u8 0), (.int .u8 0), (.int .u8 0), (.int .u8 0), (.int .u8 0), (.int .u8 0), (.int .u8 0), (.int .u8 0), (.int .u8 0), (.int .u8 0), (.int .u8 0), (.int .u8 0), (.int .u8 0), (.int .u8 0), (.int .u8 0), (.int .u8 0), (.int .u8 0), (.int .u8 0), (.int .u8 0), (.int .u8 0), (.int .u8 0), (.int .u8 0), (.int .u8 0), (.int .u8 0), (.int .u8 0), (.int .u8 0), (.int .u8 0), (.int .u8 0), (.int .u8 0), (.int .u8 0), (.int .u8 0), (.int .u8 0), (.int .u8 0), (.int .u8 0), (.int .u8 0), (.int .u8 0), (.int .u8 0), (.int .u8 0), (.int .u8 0), (.int .u8 0), (.int .u8 0), (.int .u8 0), (.int .u8 0), (.int .u8 0), (.int .u8 0), (.int .u8 0), (.int .u8 0), (.int .u8 0), (.int .u8 0), (.int .u8 0), (.int .u8 0), (.int .u8 0)])⟩ := by kernel_rfl
theorem ty121 : tyi Tryd.prog 121 = some ⟨.int .u64, 1, 8, some (.int .u64 0)⟩ := by kernel_rfl
theorem ty125 : tyi Tryd.prog 125 = some ⟨.ptr, 1, 8, some (.pointer none)⟩ := by kernel_rfl
theorem ty127 : tyi Tryd.prog 127 = some ⟨.ptr, 1, 8, some (.pointer none)⟩ := by kernel_rfl
theorem ty131 : tyi Tryd.prog 131 = some ⟨.struct [(0, 1, 17), (1, 1, 17), (2, 1, 17), (3, 1, 9)], 4, 40, some (.agg #[(.pointer none), (.pointer none), (.pointer none), (.string ⟨#[]⟩)])⟩ := by kernel_rfl
theorem ty132 : tyi Tryd.prog 132 = some ⟨.struct [(0, 1, 17), (1, 1, 17), (2, 1, 17), (3, 1, 9)], 4, 40, some (.agg #[(.pointer none), (.pointer none), (.pointer none), (.string ⟨#[]⟩)])⟩ := by kernel_rfl
theorem ty133 : tyi Tryd.prog 133 = some ⟨.array 0 16, 0, 0, some (.agg #[])⟩ := by kernel_rfl
theorem ty134 : tyi Tryd.prog 134 = some ⟨.struct [(0, 0, 133)], 0, 0, some (.agg #[])⟩ := by kernel_rfl
theorem ty135 : tyi Tryd.prog 135 = some ⟨.struct [(0, 0, 133)], 0, 0, some (.agg #[])⟩ := by kernel_rfl
theorem ty137 : tyi Tryd.prog 137 = some ⟨.int .u8, 1, 1, some (.int .u8 0)⟩ := by kernel_rfl
theorem ty138 : tyi Tryd.prog 138 = some ⟨.int .u8, 1, 1, some (.int .u8 0)⟩ := by kernel_rfl
theorem ty140 : tyi Tryd.prog 140 = some ⟨.ptr, 1, 8, some (.pointer none)⟩ := by kernel_rfl
theorem ty141 : tyi Tryd.prog 141 = some ⟨.int .i32, 1, 4, some (.int .i32 0)⟩ := by kernel_rfl
theorem ty142 : tyi Tryd.prog 142 = some ⟨.int .i32, 1, 4, some (.int .i32 0)⟩ := by kernel_rfl
theorem ty143 : tyi Tryd.prog 143 = some ⟨.struct [(0, 1, 12), (1, 1, 12), (2, 1, 102), (3, 1, 137), (4, 1, 5), (5, 1, 5), (6, 1, 138), (7, 1, 139), (8, 1, 140), (9, 1, 141), (10, 1, 142)], 11, 48, some (.agg #[(.int .u64 0), (.int .u64 0), (.int .u32 0), (.int .u8 0), (.int .u8 0), (.int .u8 0), (.int .u8 0), .nilFunc, (.pointer none), (.int .i32 0), (.int .i32 0)])⟩ := by kernel_rfl
theorem ty144 : tyi Tryd.prog 144 = some ⟨.struct [(0, 1, 12), (1, 1, 12), (2, 1, 102), (3, 1, 137), (4, 1, 5), (5, 1, 5), (6, 1, 138), (7, 1, 139), (8, 1, 140), (9, 1, 141), (10, 1, 142)], 11, 48, some (.agg #[(.int .u64 0), (.int .u64 0), (.int .u32 0), (.int .u8 0), (.int .u8 0), (.int .u8 0), (.int .u8 0), .nilFunc, (.pointer none), (.int .i32 0), (.int .i32 0)])⟩ := by kernel_rfl
theorem tz2 : tzs Tryd.prog 2 = some [.int .i64 0] := by kernel_rfl
theorem tz3 : tzs Tryd.prog 3 = some [.int .i64 0] := by kernel_rfl
theorem tz4 : tzs Tryd.prog 4 = some [.bool false] := by kernel_rfl
theorem tz5 : tzs Tryd.prog 5 = some [.int .u8 0] := by kernel_rfl
theorem tz6 : tzs Tryd.prog 6 = some [.int .u8 0] := by kernel_rfl
theorem tz7 : tzs Tryd.prog 7 = some [.int .i64 0, .int .i64 0, .bool false, .int .u8 0] := by kernel_rfl
theorem tz8 : tzs Tryd.prog 8 = some [.int .i64 0, .int .i64 0, .bool false, .int .u8 0] := by kernel_rfl
theorem tz9 : tzs Tryd.prog 9 = some [.str ⟨#[]⟩] := by kernel_rfl
theorem tz10 : tzs Tryd.prog 10 = some [.str ⟨#[]⟩] := by kernel_rfl
theorem tz11 : tzs Tryd.prog 11 = some [.str ⟨#[]⟩] := by kernel_rfl
theorem tz12 : tzs Tryd.prog 12 = some [.int .u64 0] := by kernel_rfl
theorem tz13 : tzs Tryd.prog 13 = some [.str ⟨#[]⟩, .int .u64 0] := by kernel_rfl
theorem tz14 : tzs Tryd.prog 14 = some [.str ⟨#[]⟩, .int .u64 0] := by kernel_rfl
theorem tz15 : tzs Tryd.prog 15 = some [.raw (.pointer none)] := by kernel_rfl
theorem tz16 : tzs Tryd.prog 16 = some [.raw (.pointer none)] := by kernel_rfl
theorem tz17 : tzs Tryd.prog 17 = some [.raw (.pointer none)] := by kernel_rfl
theorem tz18 : tzs Tryd.prog 18 = some [.raw (.pointer none)] := by kernel_rfl
theorem tz19 : tzs Tryd.prog 19 = some [.raw (.pointer none)] := by kernel_rfl
theorem tz21 : tzs Tryd.prog 21 = some [.int .i32 0] := by kernel_rfl
theorem tz22 : tzs Tryd.prog 22 = some [.e0] := by kernel_rfl
theorem tz23 : tzs Tryd.prog 23 = some [.int .u8 0, .int .u8 0, .int .u8 0, .int .u8 0, .e0] := by kernel_rfl
theorem tz24 : tzs Tryd.prog 24 = some [.int .u8 0, .int .u8 0, .int .u8 0, .int .u8 0, .e0] := by kernel_rfl
theorem tz25 : tzs Tryd.prog 25 = some [.int .u8 0, .int .u8 0, .int .u8 0, .int .u8 0, .int .u8 0] := by kernel_rfl
theorem tz27 : tzs Tryd.prog 27 = some [.e0] := by kernel_rfl
theorem tz28 : tzs Tryd.prog 28 = some [.int .i64 0, .e0] := by kernel_rfl
theorem tz29 : tzs Tryd.prog 29 = some [.int .i64 0, .e0] := by kernel_rfl
theorem tz31 : tzs Tryd.prog 31 = some [.e0] := by kernel_rfl
theorem tz35 : tzs Tryd.prog 35 = some [.int .u64 0] := by kernel_rfl
theorem tz38 : tzs Tryd.prog 38 = some [.int .u8 0, .int .u8 0, .int .u8 0, .int .u8 0, .int .u8 0, .int .u8 0] := by kernel_rfl
theorem tz40 : tzs Tryd.prog 40 = some [.int .i64 0] := by kernel_rfl
theorem tz41 : tzs Tryd.prog 41 = some [.int .i64 0, .e0, .int .i64 0] := by kernel_rfl
theorem tz42 : tzs Tryd.prog 42 = some [.int .i64 0, .e0, .int .i64 0] := by kernel_rfl
theorem tz48 : tzs Tryd.prog 48 = some [.e0] := by kernel_rfl
theorem tz49 : tzs Tryd.prog 49 = some [.e0] := by kernel_rfl
theorem tz51 : tzs Tryd.prog 51 = some [.int .u8 0, .int .u8 0] := by kernel_rfl
theorem tz64 : tzs Tryd.prog 64 = some [.raw (.map none)] := by kernel_rfl
theorem tz71 : tzs Tryd.prog 71 = some [.e0] := by kernel_rfl
theorem tz74 : tzs Tryd.prog 74 = some [.int .i8 0] := by kernel_rfl
theorem tz75 : tzs Tryd.prog 75 = some [.int .i8 0, .int .i8 0, .int .i8 0, .int .i8 0, .int .i8 0, .int .i8 0, .int .i8 0, .int .i8 0] := by kernel_rfl
theorem tz76 : tzs Tryd.prog 76 = some [.int .u64 0, .int .i8 0, .int .i8 0, .int .i8 0, .int .i8 0, .int .i8 0, .int .i8 0, .int .i8 0, .int .i8 0] := by kernel_rfl
theorem tz77 : tzs Tryd.prog 77 = some [.int .u64 0, .int .i8 0, .int .i8 0, .int .i8 0, .int .i8 0, .int .i8 0, .int .i8 0, .int .i8 0, .int .i8 0] := by kernel_rfl
theorem tz87 : tzs Tryd.prog 87 = some [.raw (.map none)] := by kernel_rfl
theorem tz95 : tzs Tryd.prog 95 = some [.e0] := by kernel_rfl
theorem tz102 : tzs Tryd.prog 102 = some [.int .u32 0] := by kernel_rfl
theorem tz104 : tzs Tryd.prog 104 = some [.int .u64 0] := by kernel_rfl
theorem tz112 : tzs Tryd.prog 112 = some [.int .i64 0] := by kernel_rfl
theorem tz119 : tzs Tryd.prog 119 = some [.int .u8 0, .int .u8 0, .int .u8 0, .int .u8 0, .int .u8 0, .int .u8 0, .int .u8 0, .int .u8 0, .int .u8 0, .int .u8 0, .int .u8 0, .int .u8 0, .int .u8 0, .int .u8 0, .int .u8 0, .int .u8 0, .int .u8 0, .int .u8 0, .int .u8 0, .int .u8 0, .int .u8 0, .int .u8 0, .int .u8 0, .int .u8 0, .int .u8 0, .int .u8 0, .int .u8 0, .int .u8 0, .int .u8 0, .int .u8 0, .int .u8 0, .int .u8 0] := by kernel_rfl
theorem tz120 : tzs Tryd.prog 120 = some [.int .u8 0, .int .u8 0, .int .u8 0, .int .u8 0, .int .u8 0, .int .u8 0, .int .u8 0, .int .u8 0, .int .u8 0, .int .u8 0, .int .u8 0, .int .u8 0, .int .u8 0, .int .u8 0, .int .u8 0, .int .u8 0, .int .u8 0, .int .u8 0, .int .u8 0, .int .u8 0, .int .u8 0, .int .u8 0, .int .u8 0, .int .u8 0, .int .u8 0, .int .u8 0, .int .u8 0, .int .u8 0, .int .u8 0, .int .u8 0, .int .u8 0, .int .u8 0, .int .u8 0, .int .u8 0, .int .u8 0, .int .u8 0, .int .u8 0, .int .u8 0, .int .u8 0, .int .u8 0, .int .u8 0, .int .u8 0, .int .u8 0, .int .u8 0, .int .u8 0, .int .u8 0, .int .u8 0, .int .u8 0, .int .u8 0, .int .u8 0, .int .u8 0, .int .u8 0, .int .u8 0, .int .u8 0, .int .u8 0, .int .u8 0, .int .u8 0, .int .u8 0, .int .u8 0, .int .u8 0, .int .u8 0, .int .u8 0, .int .u8 0, .int .u8 0] := by kernel_rfl
theorem tz121 : tzs Tryd.prog 121 = some [.int .u64 0] := by kernel_rfl
theorem tz125 : tzs Tryd.prog 125 = some [.raw (.pointer none)] := by kernel_rfl
theorem tz127 : tzs Tryd.prog 127 = some [.raw (.pointer none)] := by kernel_rfl
theorem tz131 : tzs Tryd.prog 131 = some [.raw (.pointer none), .raw (.pointer none), .raw (.pointer none), .str ⟨#[]⟩] := by kernel_rfl
theorem tz132 : tzs Tryd.prog 132 = some [.raw (.pointer none), .raw (.pointer none), .raw (.pointer none), .str ⟨#[]⟩] := by kernel_rfl
theorem tz133 : tzs Tryd.prog 133 = some [] := by kernel_rfl
theorem tz134 : tzs Tryd.prog 134 = some [] := by kernel_rfl
theorem tz135 : tzs Tryd.prog 135 = some [] := by kernel_rfl
theorem tz137 : tzs Tryd.prog 137 = some [.int .u8 0] := by kernel_rfl
theorem tz138 : tzs Tryd.prog 138 = some [.int .u8 0] := by kernel_rfl
theorem tz140 : tzs Tryd.prog 140 = some [.raw (.pointer none)] := by kernel_rfl
theorem tz141 : tzs Tryd.prog 141 = some [.int .i32 0] := by kernel_rfl
theorem tz142 : tzs Tryd.prog 142 = some [.int .i32 0] := by kernel_rfl
theorem tz143 : tzs Tryd.prog 143 = some [.int .u64 0, .int .u64 0, .int .u32 0, .int .u8 0, .int .u8 0, .int .u8 0, .int .u8 0, .raw .nilFunc, .raw (.pointer none), .int .i32 0, .int .i32 0] := by kernel_rfl
theorem tz144 : tzs Tryd.prog 144 = some [.int .u64 0, .int .u64 0, .int .u32 0, .int .u8 0, .int .u8 0, .int .u8 0, .int .u8 0, .raw .nilFunc, .raw (.pointer none), .int .i32 0, .int .i32 0] := by kernel_rfl
theorem kg77 : kgood Tryd.prog 77 = true := by kernel_rfl
theorem zv3 : zv Tryd.prog 3 = some (.int .i64 0) := by kernel_rfl
theorem zv4 : zv Tryd.prog 4 = some (.bool false) := by kernel_rfl
/-- All of them. -/
theorem tys : tyi Tryd.prog 2 = some ⟨.int .i64, 1, 8, some (.int .i64 0)⟩ ∧
  tyi Tryd.prog 3 = some ⟨.int .i64, 1, 8, some (.int .i64 0)⟩ ∧
  tyi Tryd.prog 4 = some ⟨.bool, 1, 1, some (.bool false)⟩ ∧
  tyi Tryd.prog 5 = some ⟨.int .u8, 1, 1, some (.int .u8 0)⟩ ∧
  tyi Tryd.prog 6 = some ⟨.int .u8, 1, 1, some (.int .u8 0)⟩ ∧
  tyi Tryd.prog 7 = some ⟨.struct [(0, 1, 2), (1, 1, 3), (2, 1, 4), (3, 1, 6)], 4, 24, some (.agg #[(.int .i64 0), (.int .i64 0), (.bool false), (.int .u8 0)])⟩ ∧
  tyi Tryd.prog 8 = some ⟨.struct [(0, 1, 2), (1, 1, 3), (2, 1, 4), (3, 1, 6)], 4, 24, some (.agg #[(.int .i64 0), (.int .i64 0), (.bool false), (.int .u8 0)])⟩ ∧
  tyi Tryd.prog 9 = some ⟨.str, 1, 16, some (.string ⟨#[]⟩)⟩ ∧
  tyi Tryd.prog 10 = some ⟨.str, 1, 16, some (.string ⟨#[]⟩)⟩ ∧
  tyi Tryd.prog 11 = some ⟨.str, 1, 16, some (.string ⟨#[]⟩)⟩ ∧
  tyi Tryd.prog 12 = some ⟨.int .u64, 1, 8, some (.int .u64 0)⟩ ∧
  tyi Tryd.prog 13 = some ⟨.struct [(0, 1, 9), (1, 1, 12)], 2, 24, some (.agg #[(.string ⟨#[]⟩), (.int .u64 0)])⟩ ∧
  tyi Tryd.prog 14 = some ⟨.struct [(0, 1, 9), (1, 1, 12)], 2, 24, some (.agg #[(.string ⟨#[]⟩), (.int .u64 0)])⟩ ∧
  tyi Tryd.prog 15 = some ⟨.ptr, 1, 8, some (.pointer none)⟩ ∧
  tyi Tryd.prog 16 = some ⟨.ptr, 1, 8, some (.pointer none)⟩ ∧
  tyi Tryd.prog 17 = some ⟨.ptr, 1, 8, some (.pointer none)⟩ ∧
  tyi Tryd.prog 18 = some ⟨.struct [(0, 1, 17)], 1, 8, some (.agg #[(.pointer none)])⟩ ∧
  tyi Tryd.prog 19 = some ⟨.struct [(0, 1, 17)], 1, 8, some (.agg #[(.pointer none)])⟩ ∧
  tyi Tryd.prog 21 = some ⟨.int .i32, 1, 4, some (.int .i32 0)⟩ ∧
  tyi Tryd.prog 22 = some ⟨.slice 5, 1, 24, some (.slice none 0 0)⟩ ∧
  tyi Tryd.prog 23 = some ⟨.struct [(0, 1, 5), (1, 1, 5), (2, 1, 5), (3, 1, 5), (4, 1, 22)], 5, 32, some (.agg #[(.int .u8 0), (.int .u8 0), (.int .u8 0), (.int .u8 0), (.slice none 0 0)])⟩ ∧
  tyi Tryd.prog 24 = some ⟨.struct [(0, 1, 5), (1, 1, 5), (2, 1, 5), (3, 1, 5), (4, 1, 22)], 5, 32, some (.agg #[(.int .u8 0), (.int .u8 0), (.int .u8 0), (.int .u8 0), (.slice none 0 0)])⟩ ∧
  tyi Tryd.prog 25 = some ⟨.array 5 5, 5, 5, some (.agg #[(.int .u8 0), (.int .u8 0), (.int .u8 0), (.int .u8 0), (.int .u8 0)])⟩ ∧
  tyi Tryd.prog 27 = some ⟨.slice 31, 1, 24, some (.slice none 0 0)⟩ ∧
  tyi Tryd.prog 28 = some ⟨.struct [(0, 1, 3), (1, 1, 27)], 2, 32, some (.agg #[(.int .i64 0), (.slice none 0 0)])⟩ ∧
  tyi Tryd.prog 29 = some ⟨.struct [(0, 1, 3), (1, 1, 27)], 2, 32, some (.agg #[(.int .i64 0), (.slice none 0 0)])⟩ ∧
  tyi Tryd.prog 31 = some ⟨.slice 3, 1, 24, some (.slice none 0 0)⟩ ∧
  tyi Tryd.prog 35 = some ⟨.int .u64, 1, 8, some (.int .u64 0)⟩ ∧
  tyi Tryd.prog 38 = some ⟨.array 6 5, 6, 6, some (.agg #[(.int .u8 0), (.int .u8 0), (.int .u8 0), (.int .u8 0), (.int .u8 0), (.int .u8 0)])⟩ ∧
  tyi Tryd.prog 40 = some ⟨.int .i64, 1, 8, some (.int .i64 0)⟩ ∧
  tyi Tryd.prog 41 = some ⟨.struct [(0, 2, 29), (2, 1, 40)], 3, 40, some (.agg #[(.int .i64 0), (.slice none 0 0), (.int .i64 0)])⟩ ∧
  tyi Tryd.prog 42 = some ⟨.struct [(0, 2, 29), (2, 1, 40)], 3, 40, some (.agg #[(.int .i64 0), (.slice none 0 0), (.int .i64 0)])⟩ ∧
  tyi Tryd.prog 48 = some ⟨.slice 51, 1, 24, some (.slice none 0 0)⟩ ∧
  tyi Tryd.prog 49 = some ⟨.slice 27, 1, 24, some (.slice none 0 0)⟩ ∧
  tyi Tryd.prog 51 = some ⟨.array 2 5, 2, 2, some (.agg #[(.int .u8 0), (.int .u8 0)])⟩ ∧
  tyi Tryd.prog 64 = some ⟨.map 77 3, 1, 8, some (.map none)⟩ ∧
  tyi Tryd.prog 71 = some ⟨.slice 4, 1, 24, some (.slice none 0 0)⟩ ∧
  tyi Tryd.prog 74 = some ⟨.int .i8, 1, 1, some (.int .i8 0)⟩ ∧
  tyi Tryd.prog 75 = some ⟨.array 8 74, 8, 8, some (.agg #[(.int .i8 0), (.int .i8 0), (.int .i8 0), (.int .i8 0), (.int .i8 0), (.int .i8 0), (.int .i8 0), (.int .i8 0)])⟩ ∧
  tyi Tryd.prog 76 = some ⟨.struct [(0, 1, 35), (1, 8, 75)], 9, 16, some (.agg #[(.int .u64 0), (.int .i8 0), (.int .i8 0), (.int .i8 0), (.int .i8 0), (.int .i8 0), (.int .i8 0), (.int .i8 0), (.int .i8 0)])⟩ ∧
  tyi Tryd.prog 77 = some ⟨.struct [(0, 1, 35), (1, 8, 75)], 9, 16, some (.agg #[(.int .u64 0), (.int .i8 0), (.int .i8 0), (.int .i8 0), (.int .i8 0), (.int .i8 0), (.int .i8 0), (.int .i8 0), (.int .i8 0)])⟩ ∧
  tyi Tryd.prog 87 = some ⟨.map 77 4, 1, 8, some (.map none)⟩ ∧
  tyi Tryd.prog 95 = some ⟨.slice 35, 1, 24, some (.slice none 0 0)⟩ ∧
  tyi Tryd.prog 102 = some ⟨.int .u32, 1, 4, some (.int .u32 0)⟩ ∧
  tyi Tryd.prog 104 = some ⟨.int .u64, 1, 8, some (.int .u64 0)⟩ ∧
  tyi Tryd.prog 112 = some ⟨.int .i64, 1, 8, some (.int .i64 0)⟩ ∧
  tyi Tryd.prog 119 = some ⟨.array 32 5, 32, 32, some (.agg #[(.int .u8 0), (.int .u8 0), (.int .u8 0), (.int .u8 0), (.int .u8 0), (.int .u8 0), (.int .u8 0), (.int .u8 0), (.int .u8 0), (.int .u8 0), (.int .u8 0), (.int .u8 0), (.int .u8 0), (.int .u8 0), (.int .u8 0), (.int .u8 0), (.int .u8 0), (.int .u8 0), (.int .u8 0), (.int .u8 0), (.int .u8 0), (.int .u8 0), (.int .u8 0), (.int .u8 0), (.int .u8 0), (.int .u8 0), (.int .u8 0), (.int .u8 0), (.int .u8 0), (.int .u8 0), (.int .u8 0), (.int .u8 0)])⟩ ∧
  tyi Tryd.prog 120 = some ⟨.array 64 5, 64, 64, some (.agg #[(.int .u8 0), (.int .u8 0), (.int .u8 0), (.int .u8 0), (.int .u8 0), (.int .u8 0), (.int .u8 0), (.int .u8 0), (.int .u8 0), (.int .u8 0), (.int .u8 0), (.int .u8 0), (.int .u8 0), (.int .u8 0), (.int .u8 0), (.int .u8 0), (.int .u8 0), (.int .u8 0), (.int .u8 0), (.int .u8 0), (.int .u8 0), (.int .u8 0), (.int .u8 0), (.int .u8 0), (.int .u8 0), (.int .u8 0), (.int .u8 0), (.int .u8 0), (.int .u8 0), (.int .u8 0), (.int .u8 0), (.int .u8 0), (.int .u8 0), (.int .u8 0), (.int .u8 0), (.int .u8 0), (.int .u8 0), (.int .u8 0), (.int .u8 0), (.int .u8 0), (.int .u8 0), (.int .u8 0), (.int .u8 0), (.int .u8 0), (.int .u8 0), (.int .u8 0), (.int .u8 0), (.int .u8 0), (.int .u8 0), (.int .u8 0), (.int .u8 0), (.int .u8 0), (.int .u8 0), (.int .u8 0), (.int .u8 0), (.int .u8 0), (.int .u8 0), (.int .u8 0), (.int .u8 0), (.int .u8 0), (.int .u8 0), (.int .u8 0), (.int .u8 0), (.int .u8 0)])⟩ ∧
  tyi Tryd.prog 121 = some ⟨.int .u64, 1, 8, some (.int .u64 0)⟩ ∧
  tyi Tryd.prog 125 = some ⟨.ptr, 1, 8, some (.pointer none)⟩ ∧
  tyi Tryd.prog 127 = some ⟨.ptr, 1, 8, some (.pointer none)⟩ ∧
  tyi Tryd.prog 131 = some ⟨.struct [(0, 1, 17), (1, 1, 17), (2, 1, 17), (3, 1, 9)], 4, 40, some (.agg #[(.pointer none), (.pointer none), (.pointer none), (.string ⟨#[]⟩)])⟩ ∧
  tyi Tryd.prog 132 = some ⟨.struct [(0, 1, 17), (1, 1, 17), (2, 1, 17), (3, 1, 9)], 4, 40, some (.agg #[(.pointer none), (.pointer none), (.pointer none), (.string ⟨#[]⟩)])⟩ ∧
  tyi Tryd.prog 133 = some ⟨.array 0 16, 0, 0, some (.agg #[])⟩ ∧
  tyi Tryd.prog 134 = some ⟨.struct [(0, 0, 133)], 0, 0, some (.agg #[])⟩ ∧
  tyi Tryd.prog 135 = some ⟨.struct [(0, 0, 133)], 0, 0, some (.agg #[])⟩ ∧
  tyi Tryd.prog 137 = some ⟨.int .u8, 1, 1, some (.int .u8 0)⟩ ∧
  tyi Tryd.prog 138 = some ⟨.int .u8, 1, 1, some (.int .u8 0)⟩ ∧
  tyi Tryd.prog 140 = some ⟨.ptr, 1, 8, some (.pointer none)⟩ ∧
  tyi Tryd.prog 141 = some ⟨.int .i32, 1, 4, some (.int .i32 0)⟩ ∧
  tyi Tryd.prog 142 = some ⟨.int .i32, 1, 4, some (.int .i32 0)⟩ ∧
  tyi Tryd.prog 143 = some ⟨.struct [(0, 1, 12), (1, 1, 12), (2, 1, 102), (3, 1, 137), (4, 1, 5), (5, 1, 5), (6, 1, 138), (7, 1, 139), (8, 1, 140), (9, 1, 141), (10, 1, 142)], 11, 48, some (.agg #[(.int .u64 0), (.int .u64 0), (.int .u32 0), (.int .u8 0), (.int .u8 0), (.int .u8 0), (.int .u8 0), .nilFunc, (.pointer none), (.int .i32 0), (.int .i32 0)])⟩ ∧
  tyi Tryd.prog 144 = some ⟨.struct [(0, 1, 12), (1, 1, 12), (2, 1, 102), (3, 1, 137), (4, 1, 5), (5, 1, 5), (6, 1, 138), (7, 1, 139), (8, 1, 140), (9, 1, 141), (10, 1, 142)], 11, 48, some (.agg #[(.int .u64 0), (.int .u64 0), (.int .u32 0), (.int .u8 0), (.int .u8 0), (.int .u8 0), (.int .u8 0), .nilFunc, (.pointer none), (.int .i32 0), (.int .i32 0)])⟩ ∧
  tzs Tryd.prog 2 = some [.int .i64 0] ∧
  tzs Tryd.prog 3 = some [.int .i64 0] ∧
  tzs Tryd.prog 4 = some [.bool false] ∧
  tzs Tryd.prog 5 = some [.int .u8 0] ∧
  tzs Tryd.prog 6 = some [.int .u8 0] ∧
  tzs Tryd.prog 7 = some [.int .i64 0, .int .i64 0, .bool false, .int .u8 0] ∧
  tzs Tryd.prog 8 = some [.int .i64 0, .int .i64 0, .bool false, .int .u8 0] ∧
  tzs Tryd.prog 9 = some [.str ⟨#[]⟩] ∧
  tzs Tryd.prog 10 = some [.str ⟨#[]⟩] ∧
  tzs Tryd.prog 11 = some [.str ⟨#[]⟩] ∧
  tzs Tryd.prog 12 = some [.int .u64 0] ∧
  tzs Tryd.prog 13 = some [.str ⟨#[]⟩, .int .u64 0] ∧
  tzs Tryd.prog 14 = some [.str ⟨#[]⟩, .int .u64 0] ∧
  tzs Tryd.prog 15 = some [.raw (.pointer none)] ∧
  tzs Tryd.prog 16 = some [.raw (.pointer none)] ∧
  tzs Tryd.prog 17 = some [.raw (.pointer none)] ∧
  tzs Tryd.prog 18 = some [.raw (.pointer none)] ∧
  tzs Tryd.prog 19 = some [.raw (.pointer none)] ∧
  tzs Tryd.prog 21 = some [.int .i32 0] ∧
  tzs Tryd.prog 22 = some [.e0] ∧
  tzs Tryd.prog 23 = some [.int .u8 0, .int .u8 0, .int .u8 0, .int .u8 0, .e0] ∧
  tzs Tryd.prog 24 = some [.int .u8 0, .int .u8 0, .int .u8 0, .int .u8 0, .e0] ∧
  tzs Tryd.prog 25 = some [.int .u8 0, .int .u8 0, .int .u8 0, .int .u8 0, .int .u8 0] ∧
  tzs Tryd.prog 27 = some [.e0] ∧
  tzs Tryd.prog 28 = some [.int .i64 0, .e0] ∧
  tzs Tryd.prog 29 = some [.int .i64 0, .e0] ∧
  tzs Tryd.prog 31 = some [.e0] ∧
  tzs Tryd.prog 35 = some [.int .u64 0] ∧
  tzs Tryd.prog 38 = some [.int .u8 0, .int .u8 0, .int .u8 0, .int .u8 0, .int .u8 0, .int .u8 0] ∧
  tzs Tryd.prog 40 = some [.int .i64 0] ∧
  tzs Tryd.prog 41 = some [.int .i64 0, .e0, .int .i64 0] ∧
  tzs Tryd.prog 42 = some [.int .i64 0, .e0, .int .i64 0] ∧
  tzs Tryd.prog 48 = some [.e0] ∧
  tzs Tryd.prog 49 = some [.e0] ∧
  tzs Tryd.prog 51 = some [.int .u8 0, .int .u8 0] ∧
  tzs Tryd.prog 64 = some [.raw (.map none)] ∧
  tzs Tryd.prog 71 = some [.e0] ∧
  tzs Tryd.prog 74 = some [.int .i8 0] ∧
  tzs Tryd.prog 75 = some [.int .i8 0, .int .i8 0, .int .i8 0, .int .i8 0, .int .i8 0, .int .i8 0, .int .i8 0, .int .i8 0] ∧
  tzs Tryd.prog 76 = some [.int .u64 0, .int .i8 0, .int .i8 0, .int .i8 0, .int .i8 0, .int .i8 0, .int .i8 0, .int .i8 0, .int .i8 0] ∧
  tzs Tryd.prog 77 = some [.int .u64 0, .int .i8 0, .int .i8 0, .int .i8 0, .int .i8 0, .int .i8 0, .int .i8 0, .int .i8 0, .int .i8 0] ∧
  tzs Tryd.prog 87 = some [.raw (.map none)] ∧
  tzs Tryd.prog 95 = some [.e0] ∧
  tzs Tryd.prog 102 = some [.int .u32 0] ∧
  tzs Tryd.prog 104 = some [.int .u64 0] ∧
  tzs Tryd.prog 112 = some [.int .i64 0] ∧
  tzs Tryd.prog 119 = some [.int .u8 0, .int .u8 0, .int .u8 0, .int .u8 0, .int .u8 0, .int .u8 0, .int .u8 0, .int .u8 0, .int .u8 0, .int .u8 0, .int .u8 0, .int .u8 0, .int .u8 0, .int .u8 0, .int .u8 0, .int .u8 0, .int .u8 0, .int .u8 0, .int .u8 0, .int .u8 0, .int .u8 0, .int .u8 0, .int .u8 0, .int .u8 0, .int .u8 0, .int .u8 0, .int .u8 0, .int .u8 0, .int .u8 0, .int .u8 0, .int .u8 0, .int .u8 0] ∧
  tzs Tryd.prog 120 = some [.int .u8 0, .int .u8 0, .int .u8 0, .int .u8 0, .int .u8 0, .int .u8 0, .int .u8 0, .int .u8 0, .int .u8 0, .int .u8 0, .int .u8 0, .int .u8 0, .int .u8 0, .int .u8 0, .int .u8 0, .int .u8 0, .int .u8 0, .int .u8 0, .int .u8 0, .int .u8 0, .int .u8 0, .int .u8 0, .int .u8 0, .int .u8 0, .int .u8 0, .int .u8 0, .int .u8 0, .int .u8 0, .int .u8 0, .int .u8 0, .int .u8 0, .int .u8 0, .int .u8 0, .int .u8 0, .int .u8 0, .int .u8 0, .int .u8 0, .int .u8 0, .int .u8 0, .int .u8 0, .int .u8 0, .int .u8 0, .int .u8 0, .int .u8 0, .int .u8 0, .int .u8 0, .int .u8 0, .int .u8 0, .int .u8 0, .int .u8 0, .int .u8 0, .int .u8 0, .int .u8 0, .int .u8 0, .int .u8 0, .int .u8 0, .int .u8 0, .int .u8 0, .int .u8 0, .int .u8 0, .int .u8 0, .int .u8 0, .int .u8 0, .int .u8 0] ∧
  tzs Tryd.prog 121 = some [.int .u64 0] ∧
  tzs Tryd.prog 125 = some [.raw (.pointer none)] ∧
  tzs Tryd.prog 127 = some [.raw (.pointer none)] ∧
  tzs Tryd.prog 131 = some [.raw (.pointer none), .raw (.pointer none), .raw (.pointer none), .str ⟨#[]⟩] ∧
  tzs Tryd.prog 132 = some [.raw (.pointer none), .raw (.pointer none), .raw (.pointer none), .str ⟨#[]⟩] ∧
  tzs Tryd.prog 133 = some [] ∧
  tzs Tryd.prog 134 = some [] ∧
  tzs Tryd.prog 135 = some [] ∧
  tzs Tryd.prog 137 = some [.int .u8 0] ∧
  tzs Tryd.prog 138 = some [.int .u8 0] ∧
  tzs Tryd.prog 140 = some [.raw (.pointer none)] ∧
  tzs Tryd.prog 141 = some [.int .i32 0] ∧
  tzs Tryd.prog 142 = some [.int .i32 0] ∧
  tzs Tryd.prog 143 = some [.int .u64 0, .int .u64 0, .int .u32 0, .int .u8 0, .int .u8 0, .int .u8 0, .int .u8 0, .raw .nilFunc, .raw (.pointer none), .int .i32 0, .int .i32 0] ∧
  tzs Tryd.prog 144 = some [.int .u64 0, .int .u64 0, .int .u32 0, .int .u8 0, .int .u8 0, .int .u8 0, .int .u8 0, .raw .nilFunc, .raw (.pointer none), .int .i32 0, .int .i32 0] ∧
  kgood Tryd.prog 77 = true ∧
  zv Tryd.prog 3 = some (.int .i64 0) ∧
  zv Tryd.prog 4 = some (.bool false) := ⟨ty2, ty3, ty4, ty5, ty6, ty7, ty8, ty9, ty10, ty11, ty12, ty13, ty14, ty15, ty16, ty17, ty18, ty19, ty21, ty22, ty23, ty24, ty25, ty27, ty28, ty29, ty31, ty35, ty38, ty40, ty41, ty42, ty48, ty49, ty51, ty64, ty71, ty74, ty75, ty76, ty77, ty87, ty95, ty102, ty104, ty112, ty119, ty120, ty121, ty125, ty127, ty131, ty132, ty133, ty134, ty135, ty137, ty138, ty140, ty141, ty142, ty143, ty144, tz2, tz3, tz4, tz5, tz6, tz7, tz8, tz9, tz10, tz11, tz12, tz13, tz14, tz15, tz16, tz17, tz18, tz19, tz21, tz22, tz23, tz24, tz25, tz27, tz28, tz29, tz31, tz35, tz38, tz40, tz41, tz42, tz48, tz49, tz51, tz64, tz71, tz74, tz75, tz76, tz77, tz87, tz95, tz102, tz104, tz112, tz119, tz120, tz121, tz125, tz127, tz131, tz132, tz133, tz134, tz135, tz137, tz138, tz140, tz141, tz142, tz143, tz144, kg77, zv3, zv4⟩
end Go.VL
end

/- The array seat: small functions. -/
section
set_option linter.unusedSimpArgs false
namespace Go.VL
open Go Go.Proofs

/-- A list of numbers, a list of lists, an array. -/
def intsV (l : List Int) : List V := l.map (V.int .i64)
def rowV (l : List Int) : V := .lst 1 (intsV l)
def arrV (S : Int) (R : List (List Int)) : V := .agg [.int .i64 S, .lst 1 (R.map rowV)]

theorem intsV_len (l : List Int) : (intsV l).length = l.length := by simp [intsV]

/-- The number of columns. -/
def colsN (R : List (List Int)) : Nat := ((R[0]?).getD []).length

theorem possible_spec (S : Int) (R : List (List Int)) (t : Int) (st : St) (hR : 0 < R.length) : VCall D 32 [arrV S R, .int .i64 t] st (fun r st' => r = .bool (decide (1 ≤ t ∧ t ≤ colsN R)) ∧ st' = st) := by
  obtain ⟨r0, R', rfl⟩ : ∃ r0 R', R = r0 :: R' := by cases R with
    | nil => simp at hR
    | cons a b => exact ⟨a, b, rfl⟩
  refine VCall.clean ?_
  refine VCall.of_WP (fn := Tryd.f32) (c := _) Tryd.func32 rfl (by decide +kernel) (Nat.le_of_ble_eq_true rfl) ?_
  refine wpF_sound ?_
  simp -implicitDefEqProofs only [s_s, argEnv, PastOK, PendOK, sel, isE, isSp, baseOK, opR, opnd, opnds, opndL, ofConst, look, putE, dstOK, guardL, binR, intOp, loadR, bad, bound, lenV, srcV, Ob.read, V.plain, V.one, V.cells, fillV, setMany, zeros, TK.agg, Sub, cellRes, loadV, bindE, Nat.reduceAdd, Nat.reduceEqDiff, Nat.reduceLT, Nat.reduceLeDiff, Nat.reduceMul, Nat.reduceSub, Nat.reduceDiv, Nat.reduceMod, Nat.reduceBEq, Nat.reduceBNe, reduceIte, reduceCtorEq, Int.reduceToNat, Int.reduceLT, Int.reduceLE, Int.reduceAdd, Int.reduceSub, Int.reduceMul, Int.reduceNeg, Int.reduceEq, Int.reduceNe, D_G, D_P, List.lookup, tys, rowV, intsV_len, Tryd.ntmps32, Tryd.f32, arrV]
  refine OpsG.intro (fun h => ?_) (fun h => ?_)
  · simp -implicitDefEqProofs only [s_s, argEnv, PastOK, PendOK, sel, isE, isSp, baseOK, opR, opnd, opnds, opndL, ofConst, look, putE, dstOK, guardL, binR, intOp, loadR, bad, bound, lenV, srcV, Ob.read, V.plain, V.one, V.cells, fillV, setMany, zeros, TK.agg, Sub, cellRes, loadV, bindE, Nat.reduceAdd, Nat.reduceEqDiff, Nat.reduceLT, Nat.reduceLeDiff, Nat.reduceMul, Nat.reduceSub, Nat.reduceDiv, Nat.reduceMod, Nat.reduceBEq, Nat.reduceBNe, reduceIte, reduceCtorEq, Int.reduceToNat, Int.reduceLT, Int.reduceLE, Int.reduceAdd, Int.reduceSub, Int.reduceMul, Int.reduceNeg, Int.reduceEq, Int.reduceNe, D_G, D_P, List.lookup, tys, rowV, intsV_len, h]
    refine ⟨by omega, Post.r1 rfl ⟨_, _, rfl, .keep rfl, ?_⟩⟩
    have h' : 1 ≤ t := by simpa using h
    simp [h', colsN]
  · simp -implicitDefEqProofs only [s_s, argEnv, PastOK, PendOK, sel, isE, isSp, baseOK, opR, opnd, opnds, opndL, ofConst, look, putE, dstOK, guardL, binR, intOp, loadR, bad, bound, lenV, srcV, Ob.read, V.plain, V.one, V.cells, fillV, setMany, zeros, TK.agg, Sub, cellRes, loadV, bindE, Nat.reduceAdd, Nat.reduceEqDiff, Nat.reduceLT, Nat.reduceLeDiff, Nat.reduceMul, Nat.reduceSub, Nat.reduceDiv, Nat.reduceMod, Nat.reduceBEq, Nat.reduceBNe, reduceIte, reduceCtorEq, Int.reduceToNat, Int.reduceLT, Int.reduceLE, Int.reduceAdd, Int.reduceSub, Int.reduceMul, Int.reduceNeg, Int.reduceEq, Int.reduceNe, D_G, D_P, List.lookup, tys, rowV, intsV_len, h]
    refine Post.r1 rfl ⟨_, _, rfl, .keep rfl, ?_⟩
    have h' : ¬ 1 ≤ t := by simpa using h
    simp [h']

theorem Covers_spec (S : Int) (R : List (List Int)) (t : Int) (m : Int) (hR : 0 < R.length) (hm : 1 ≤ t → t ≤ colsN R → ∀ st, VCall D 14 [arrV S R, .int .i64 t] st (fun r st' => r = .int .i64 m ∧ st' = st)) (st : St) :
    VCall D 13 [arrV S R, .int .i64 t] st (fun r st' => r = .bool (decide (1 ≤ t ∧ t ≤ colsN R) && m == 0) ∧ st' = st) := by
  refine VCall.clean ?_
  refine VCall.of_WP (fn := Tryd.f13) (c := _) Tryd.func13 rfl (by decide +kernel) (Nat.le_of_ble_eq_true rfl) ?_
  refine wpF_sound ?_
  simp -implicitDefEqProofs only [s_s, argEnv, PastOK, PendOK, sel, isE, isSp, baseOK, opR, opnd, opnds, opndL, ofConst, look, putE, dstOK, guardL, binR, intOp, loadR, bad, bound, lenV, srcV, Ob.read, V.plain, V.one, V.cells, fillV, setMany, zeros, TK.agg, Sub, cellRes, loadV, bindE, Nat.reduceAdd, Nat.reduceEqDiff, Nat.reduceLT, Nat.reduceLeDiff, Nat.reduceMul, Nat.reduceSub, Nat.reduceDiv, Nat.reduceMod, Nat.reduceBEq, Nat.reduceBNe, reduceIte, reduceCtorEq, Int.reduceToNat, Int.reduceLT, Int.reduceLE, Int.reduceAdd, Int.reduceSub, Int.reduceMul, Int.reduceNeg, Int.reduceEq, Int.reduceNe, D_G, D_P, List.lookup, tys, rowV, intsV_len, Tryd.ntmps13, Tryd.f13, arrV]
  refine Sp.call rfl rfl ?_
  refine (possible_spec S R t _ hR).mono ?_
  rintro r st' ⟨rfl, rfl⟩
  simp -implicitDefEqProofs only [s_s, argEnv, PastOK, PendOK, sel, isE, isSp, baseOK, opR, opnd, opnds, opndL, ofConst, look, putE, dstOK, guardL, binR, intOp, loadR, bad, bound, lenV, srcV, Ob.read, V.plain, V.one, V.cells, fillV, setMany, zeros, TK.agg, Sub, cellRes, loadV, bindE, Nat.reduceAdd, Nat.reduceEqDiff, Nat.reduceLT, Nat.reduceLeDiff, Nat.reduceMul, Nat.reduceSub, Nat.reduceDiv, Nat.reduceMod, Nat.reduceBEq, Nat.reduceBNe, reduceIte, reduceCtorEq, Int.reduceToNat, Int.reduceLT, Int.reduceLE, Int.reduceAdd, Int.reduceSub, Int.reduceMul, Int.reduceNeg, Int.reduceEq, Int.reduceNe, D_G, D_P, List.lookup, tys, rowV, intsV_len]
  refine OpsG.intro (fun h => ?_) (fun h => ?_)
  · have h' : 1 ≤ t ∧ t ≤ colsN R := by simpa using h
    simp -implicitDefEqProofs only [s_s, argEnv, PastOK, PendOK, sel, isE, isSp, baseOK, opR, opnd, opnds, opndL, ofConst, look, putE, dstOK, guardL, binR, intOp, loadR, bad, bound, lenV, srcV, Ob.read, V.plain, V.one, V.cells, fillV, setMany, zeros, TK.agg, Sub, cellRes, loadV, bindE, Nat.reduceAdd, Nat.reduceEqDiff, Nat.reduceLT, Nat.reduceLeDiff, Nat.reduceMul, Nat.reduceSub, Nat.reduceDiv, Nat.reduceMod, Nat.reduceBEq, Nat.reduceBNe, reduceIte, reduceCtorEq, Int.reduceToNat, Int.reduceLT, Int.reduceLE, Int.reduceAdd, Int.reduceSub, Int.reduceMul, Int.reduceNeg, Int.reduceEq, Int.reduceNe, D_G, D_P, List.lookup, tys, rowV, intsV_len, h]
    refine Sp.call rfl rfl ?_
    refine (hm h'.1 h'.2 _).mono ?_
    rintro r st' ⟨rfl, rfl⟩
    simp -implicitDefEqProofs only [s_s, argEnv, PastOK, PendOK, sel, isE, isSp, baseOK, opR, opnd, opnds, opndL, ofConst, look, putE, dstOK, guardL, binR, intOp, loadR, bad, bound, lenV, srcV, Ob.read, V.plain, V.one, V.cells, fillV, setMany, zeros, TK.agg, Sub, cellRes, loadV, bindE, Nat.reduceAdd, Nat.reduceEqDiff, Nat.reduceLT, Nat.reduceLeDiff, Nat.reduceMul, Nat.reduceSub, Nat.reduceDiv, Nat.reduceMod, Nat.reduceBEq, Nat.reduceBNe, reduceIte, reduceCtorEq, Int.reduceToNat, Int.reduceLT, Int.reduceLE, Int.reduceAdd, Int.reduceSub, Int.reduceMul, Int.reduceNeg, Int.reduceEq, Int.reduceNe, D_G, D_P, List.lookup, tys, rowV, intsV_len, h]
    exact Post.r1 rfl ⟨_, _, rfl, .keep rfl, by simp; rfl⟩
  · simp -implicitDefEqProofs only [s_s, argEnv, PastOK, PendOK, sel, isE, isSp, baseOK, opR, opnd, opnds, opndL, ofConst, look, putE, dstOK, guardL, binR, intOp, loadR, bad, bound, lenV, srcV, Ob.read, V.plain, V.one, V.cells, fillV, setMany, zeros, TK.agg, Sub, cellRes, loadV, bindE, Nat.reduceAdd, Nat.reduceEqDiff, Nat.reduceLT, Nat.reduceLeDiff, Nat.reduceMul, Nat.reduceSub, Nat.reduceDiv, Nat.reduceMod, Nat.reduceBEq, Nat.reduceBNe, reduceIte, reduceCtorEq, Int.reduceToNat, Int.reduceLT, Int.reduceLE, Int.reduceAdd, Int.reduceSub, Int.reduceMul, Int.reduceNeg, Int.reduceEq, Int.reduceNe, D_G, D_P, List.lookup, tys, rowV, intsV_len, h]
    exact Post.r1 rfl ⟨_, _, rfl, .keep rfl, by simp⟩

theorem Index_spec (S : Int) (R : List (List Int)) (t : Int) (m : Int) (hR : 0 < R.length) (hm : 1 ≤ t → t ≤ colsN R → ∀ st, VCall D 31 [arrV S R, .int .i64 t] st (fun r st' => r = .int .i64 m ∧ st' = st)) (st : St) :
    VCall D 12 [arrV S R, .int .i64 t] st (fun r st' => r = .int .i64 (if 1 ≤ t ∧ t ≤ colsN R then m else 0) ∧ st' = st) := by
  refine VCall.clean ?_
  refine VCall.of_WP (fn := Tryd.f12) (c := _) Tryd.func12 rfl (by decide +kernel) (Nat.le_of_ble_eq_true rfl) ?_
  refine wpF_sound ?_
  simp -implicitDefEqProofs only [s_s, argEnv, PastOK, PendOK, sel, isE, isSp, baseOK, opR, opnd, opnds, opndL, ofConst, look, putE, dstOK, guardL, binR, intOp, loadR, bad, bound, lenV, srcV, Ob.read, V.plain, V.one, V.cells, fillV, setMany, zeros, TK.agg, Sub, cellRes, loadV, bindE, Nat.reduceAdd, Nat.reduceEqDiff, Nat.reduceLT, Nat.reduceLeDiff, Nat.reduceMul, Nat.reduceSub, Nat.reduceDiv, Nat.reduceMod, Nat.reduceBEq, Nat.reduceBNe, reduceIte, reduceCtorEq, Int.reduceToNat, Int.reduceLT, Int.reduceLE, Int.reduceAdd, Int.reduceSub, Int.reduceMul, Int.reduceNeg, Int.reduceEq, Int.reduceNe, D_G, D_P, List.lookup, tys, rowV, intsV_len, Tryd.ntmps12, Tryd.f12, arrV]
  refine Sp.call rfl rfl ?_
  refine (possible_spec S R t _ hR).mono ?_
  rintro r st' ⟨rfl, rfl⟩
  simp -implicitDefEqProofs only [s_s, argEnv, PastOK, PendOK, sel, isE, isSp, baseOK, opR, opnd, opnds, opndL, ofConst, look, putE, dstOK, guardL, binR, intOp, loadR, bad, bound, lenV, srcV, Ob.read, V.plain, V.one, V.cells, fillV, setMany, zeros, TK.agg, Sub, cellRes, loadV, bindE, Nat.reduceAdd, Nat.reduceEqDiff, Nat.reduceLT, Nat.reduceLeDiff, Nat.reduceMul, Nat.reduceSub, Nat.reduceDiv, Nat.reduceMod, Nat.reduceBEq, Nat.reduceBNe, reduceIte, reduceCtorEq, Int.reduceToNat, Int.reduceLT, Int.reduceLE, Int.reduceAdd, Int.reduceSub, Int.reduceMul, Int.reduceNeg, Int.reduceEq, Int.reduceNe, D_G, D_P, List.lookup, tys, rowV, intsV_len]
  refine Br.intro (fun h => ?_) (fun h => ?_)
  · have h' : ¬ (1 ≤ t ∧ t ≤ colsN R) := by simp at h; omega
    simp -implicitDefEqProofs only [s_s, argEnv, PastOK, PendOK, sel, isE, isSp, baseOK, opR, opnd, opnds, opndL, ofConst, look, putE, dstOK, guardL, binR, intOp, loadR, bad, bound, lenV, srcV, Ob.read, V.plain, V.one, V.cells, fillV, setMany, zeros, TK.agg, Sub, cellRes, loadV, bindE, Nat.reduceAdd, Nat.reduceEqDiff, Nat.reduceLT, Nat.reduceLeDiff, Nat.reduceMul, Nat.reduceSub, Nat.reduceDiv, Nat.reduceMod, Nat.reduceBEq, Nat.reduceBNe, reduceIte, reduceCtorEq, Int.reduceToNat, Int.reduceLT, Int.reduceLE, Int.reduceAdd, Int.reduceSub, Int.reduceMul, Int.reduceNeg, Int.reduceEq, Int.reduceNe, D_G, D_P, List.lookup, tys, rowV, intsV_len]
    exact Post.r1 rfl ⟨_, _, rfl, .keep rfl, by rw [if_neg h']⟩
  · have h' : 1 ≤ t ∧ t ≤ colsN R := by simpa using h
    simp -implicitDefEqProofs only [s_s, argEnv, PastOK, PendOK, sel, isE, isSp, baseOK, opR, opnd, opnds, opndL, ofConst, look, putE, dstOK, guardL, binR, intOp, loadR, bad, bound, lenV, srcV, Ob.read, V.plain, V.one, V.cells, fillV, setMany, zeros, TK.agg, Sub, cellRes, loadV, bindE, Nat.reduceAdd, Nat.reduceEqDiff, Nat.reduceLT, Nat.reduceLeDiff, Nat.reduceMul, Nat.reduceSub, Nat.reduceDiv, Nat.reduceMod, Nat.reduceBEq, Nat.reduceBNe, reduceIte, reduceCtorEq, Int.reduceToNat, Int.reduceLT, Int.reduceLE, Int.reduceAdd, Int.reduceSub, Int.reduceMul, Int.reduceNeg, Int.reduceEq, Int.reduceNe, D_G, D_P, List.lookup, tys, rowV, intsV_len]
    refine Sp.call rfl rfl ?_
    refine (hm h'.1 h'.2 _).mono ?_
    rintro r st' ⟨rfl, rfl⟩
    simp -implicitDefEqProofs only [s_s, argEnv, PastOK, PendOK, sel, isE, isSp, baseOK, opR, opnd, opnds, opndL, ofConst, look, putE, dstOK, guardL, binR, intOp, loadR, bad, bound, lenV, srcV, Ob.read, V.plain, V.one, V.cells, fillV, setMany, zeros, TK.agg, Sub, cellRes, loadV, bindE, Nat.reduceAdd, Nat.reduceEqDiff, Nat.reduceLT, Nat.reduceLeDiff, Nat.reduceMul, Nat.reduceSub, Nat.reduceDiv, Nat.reduceMod, Nat.reduceBEq, Nat.reduceBNe, reduceIte, reduceCtorEq, Int.reduceToNat, Int.reduceLT, Int.reduceLE, Int.reduceAdd, Int.reduceSub, Int.reduceMul, Int.reduceNeg, Int.reduceEq, Int.reduceNe, D_G, D_P, List.lookup, tys, rowV, intsV_len]
    exact Post.r1 rfl ⟨_, _, rfl, .keep rfl, by rw [if_pos h']⟩
end Go.VL
end

/- The array seat: combinations of levels. -/
section
set_option linter.unusedSimpArgs false
namespace Go.VL
open Go Go.Proofs

/-- The level of a column, if it is in the set. -/
def lev (r : List Int) (s : Nat) (j : Nat) : Int := if s.testBit j then (r[j]?).getD 0 else 0

/-- The levels that are laid down when i columns are done. -/
def levs (r : List Int) (s i : Nat) : List Int := (List.range 8).map fun j => if j < i then lev r s j else 0

/-- The cells of a combination. -/
def combC (r : List Int) (s i : Nat) : List (IntKind × Int) := (.u64, (s : Int)) :: (levs r s i).map fun x => (.i8, x)
def cellsI (l : List (IntKind × Int)) : List V := l.map fun p => V.int p.1 p.2

theorem bit_at (s i : Nat) (hs : s < 256) (hi : i < 8) : decide (IntKind.u64.wrap ((BitVec.ofInt IntKind.u64.bits ((s : Int).fdiv (2 ^ min i IntKind.u64.bits)) &&& BitVec.ofInt IntKind.u64.bits 1).toNat : Int) = 1) = s.testBit i := by
  have : ∀ (s : Fin 256) (i : Fin 8), decide (IntKind.u64.wrap ((BitVec.ofInt IntKind.u64.bits (((s : Nat) : Int).fdiv (2 ^ min (i : Nat) IntKind.u64.bits)) &&& BitVec.ofInt IntKind.u64.bits 1).toNat : Int) = 1) = (s : Nat).testBit (i : Nat) := by decide +kernel
  exact this ⟨s, hs⟩ ⟨i, hi⟩

theorem levs_succ (r : List Int) (s i : Nat) (hi : i < 8) : levs r s (i + 1) = (levs r s i).set i (lev r s i) := by
  apply List.ext_getElem?
  intro j
  simp only [levs, List.getElem?_map, List.getElem?_set, List.length_map, List.length_range]
  by_cases hj : j < 8
  · rw [List.getElem?_range hj]
    by_cases e : i = j
    · subst e; simp [hi]
    · simp only [e, if_false, Option.map_some]
      by_cases h : j < i
      · simp [h, show j < i + 1 by omega]
      · simp [h, show ¬ j < i + 1 by omega]
  · have : (List.range 8)[j]? = none := List.getElem?_eq_none (by simp; omega)
    rw [this]
    have : i ≠ j := by omega
    simp [this]

theorem levs_same (r : List Int) (s i : Nat) (hi : i < 8) (h : s.testBit i = false) : levs r s (i + 1) = levs r s i := by
  rw [levs_succ r s i hi]
  apply List.ext_getElem?
  intro j
  rw [List.getElem?_set]
  by_cases e : i = j
  · subst e; simp [levs, hi, lev, h]
  · simp [e]

theorem levs_full (r : List Int) (s i : Nat) (hl : r.length ≤ i) (_hi : i ≤ 8) : levs r s i = levs r s 8 := by
  simp only [levs]
  apply List.map_congr_left
  intro j hj
  simp at hj
  by_cases h : j < i
  · simp [h, hj]
  · simp only [h, hj, if_false, if_true, lev]
    rw [List.getElem?_eq_none (by omega)]; simp

theorem wrap8 (x : Int) (h : 0 ≤ x ∧ x < 8) : IntKind.i8.wrap x = x := by
  have : ∀ x : Fin 8, IntKind.i8.wrap ((x : Nat) : Int) = ((x : Nat) : Int) := by decide +kernel
  obtain ⟨n, rfl⟩ := Int.eq_ofNat_of_zero_le h.1
  exact this ⟨n, by omega⟩

theorem comb_get (r : List Int) (s i : Nat) : cellsI (combC r s i) = .int .u64 s :: (levs r s i).map (V.int .i8) := by
  simp [cellsI, combC]

theorem of_spec (r : List Int) (s : Nat) (hl : r.length ≤ 8) (hr : ∀ x ∈ r, 0 ≤ x ∧ x < 8) (hs : s < 256) (st : St) : VCall D 45 [rowV r, .int .u64 s] st (fun v st' => v = .agg (cellsI (combC r s 8)) ∧ st' = st) := by
  refine VCall.clean ?_
  refine VCall.of_WP (fn := Tryd.f45) (c := _) Tryd.func45 rfl (by decide +kernel) (Nat.le_of_ble_eq_true rfl) ?_
  refine wpF_sound ?_
  simp -implicitDefEqProofs only [s_s, argEnv, PastOK, PendOK, sel, isE, isSp, baseOK, opR, opnd, opnds, opndL, ofConst, look, putE, dstOK, guardL, binR, intOp, loadR, bad, bound, lenV, srcV, Ob.read, V.plain, V.one, V.cells, fillV, setMany, zeros, TK.agg, Sub, cellRes, loadV, bindE, Nat.reduceAdd, Nat.reduceEqDiff, Nat.reduceLT, Nat.reduceLeDiff, Nat.reduceMul, Nat.reduceSub, Nat.reduceDiv, Nat.reduceMod, Nat.reduceBEq, Nat.reduceBNe, reduceIte, reduceCtorEq, Int.reduceToNat, Int.reduceLT, Int.reduceLE, Int.reduceAdd, Int.reduceSub, Int.reduceMul, Int.reduceNeg, Int.reduceEq, Int.reduceNe, D_G, D_P, List.lookup, tys, rowV, intsV_len, Tryd.ntmps45, Tryd.f45]
  refine WP.loopF (ι := Nat) (fun i => [(1, .int .u64 s), (4, .ptr st.length 0 0), (5, .ptr (st.length + 1) 0 0), (10, rowV r), (11, .int .i64 r.length), (12, .int .i64 i)])
    (fun i => st ++ [.cells 0 [.int .u64 0, .int .i8 0, .int .i8 0, .int .i8 0, .int .i8 0, .int .i8 0, .int .i8 0, .int .i8 0, .int .i8 0], .cells 0 (.int .u64 s :: (levs r s i).map (V.int .i8))]) (fun i => i ≤ r.length) (fun i => r.length - i) 0 (by omega) (by simp -implicitDefEqProofs only [s_s, argEnv, PastOK, PendOK, sel, isE, isSp, baseOK, opR, opnd, opnds, opndL, ofConst, look, putE, dstOK, guardL, binR, intOp, loadR, bad, bound, lenV, srcV, Ob.read, V.plain, V.one, V.cells, fillV, setMany, zeros, TK.agg, Sub, cellRes, loadV, bindE, Nat.reduceAdd, Nat.reduceEqDiff, Nat.reduceLT, Nat.reduceLeDiff, Nat.reduceMul, Nat.reduceSub, Nat.reduceDiv, Nat.reduceMod, Nat.reduceBEq, Nat.reduceBNe, reduceIte, reduceCtorEq, Int.reduceToNat, Int.reduceLT, Int.reduceLE, Int.reduceAdd, Int.reduceSub, Int.reduceMul, Int.reduceNeg, Int.reduceEq, Int.reduceNe, D_G, D_P, List.lookup, tys, rowV, intsV_len]; simp) (by rfl) ?_
  intro i hi
  simp -implicitDefEqProofs only [s_s, argEnv, PastOK, PendOK, sel, isE, isSp, baseOK, opR, opnd, opnds, opndL, ofConst, look, putE, dstOK, guardL, binR, intOp, loadR, bad, bound, lenV, srcV, Ob.read, V.plain, V.one, V.cells, fillV, setMany, zeros, TK.agg, Sub, cellRes, loadV, bindE, Nat.reduceAdd, Nat.reduceEqDiff, Nat.reduceLT, Nat.reduceLeDiff, Nat.reduceMul, Nat.reduceSub, Nat.reduceDiv, Nat.reduceMod, Nat.reduceBEq, Nat.reduceBNe, reduceIte, reduceCtorEq, Int.reduceToNat, Int.reduceLT, Int.reduceLE, Int.reduceAdd, Int.reduceSub, Int.reduceMul, Int.reduceNeg, Int.reduceEq, Int.reduceNe, D_G, D_P, List.lookup, tys, rowV, intsV_len]
  refine Br.intro (fun h => ?_) (fun h => ?_)
  · have h' : i < r.length := by simpa using h
    obtain ⟨x, hx⟩ : ∃ x, r[i]? = some x := ⟨_, List.getElem?_eq_getElem h'⟩
    have hv : (intsV r)[i]? = some (.int .i64 x) := by simp [intsV, hx]
    have w2 := wrapI (n := (i : Int) + 1) (by omega) (by omega)
    have hxr := hr x (List.mem_of_getElem? hx)
    have w3 := wrap8 x hxr
    have hb := bit_at s i hs (by omega)
    simp -implicitDefEqProofs only [s_s, argEnv, PastOK, PendOK, sel, isE, isSp, baseOK, opR, opnd, opnds, opndL, ofConst, look, putE, dstOK, guardL, binR, intOp, loadR, bad, bound, lenV, srcV, Ob.read, V.plain, V.one, V.cells, fillV, setMany, zeros, TK.agg, Sub, cellRes, loadV, bindE, Nat.reduceAdd, Nat.reduceEqDiff, Nat.reduceLT, Nat.reduceLeDiff, Nat.reduceMul, Nat.reduceSub, Nat.reduceDiv, Nat.reduceMod, Nat.reduceBEq, Nat.reduceBNe, reduceIte, reduceCtorEq, Int.reduceToNat, Int.reduceLT, Int.reduceLE, Int.reduceAdd, Int.reduceSub, Int.reduceMul, Int.reduceNeg, Int.reduceEq, Int.reduceNe, D_G, D_P, List.lookup, tys, rowV, intsV_len, hv, hb]
    refine ⟨⟨by omega, by omega⟩, by omega, Br.intro (fun h2 => ?_) (fun h2 => ?_)⟩
    · simp -implicitDefEqProofs only [s_s, argEnv, PastOK, PendOK, sel, isE, isSp, baseOK, opR, opnd, opnds, opndL, ofConst, look, putE, dstOK, guardL, binR, intOp, loadR, bad, bound, lenV, srcV, Ob.read, V.plain, V.one, V.cells, fillV, setMany, zeros, TK.agg, Sub, cellRes, loadV, bindE, Nat.reduceAdd, Nat.reduceEqDiff, Nat.reduceLT, Nat.reduceLeDiff, Nat.reduceMul, Nat.reduceSub, Nat.reduceDiv, Nat.reduceMod, Nat.reduceBEq, Nat.reduceBNe, reduceIte, reduceCtorEq, Int.reduceToNat, Int.reduceLT, Int.reduceLE, Int.reduceAdd, Int.reduceSub, Int.reduceMul, Int.reduceNeg, Int.reduceEq, Int.reduceNe, D_G, D_P, List.lookup, tys, rowV, intsV_len, w2, w3]
      refine ⟨⟨by omega, by omega⟩, ?_, ?_⟩
      · simp [levs]; omega
      · refine Kl.next (i + 1) (by omega) (by omega) ?_ ?_
        · simp -implicitDefEqProofs only [s_s, argEnv, PastOK, PendOK, sel, isE, isSp, baseOK, opR, opnd, opnds, opndL, ofConst, look, putE, dstOK, guardL, binR, intOp, loadR, bad, bound, lenV, srcV, Ob.read, V.plain, V.one, V.cells, fillV, setMany, zeros, TK.agg, Sub, cellRes, loadV, bindE, Nat.reduceAdd, Nat.reduceEqDiff, Nat.reduceLT, Nat.reduceLeDiff, Nat.reduceMul, Nat.reduceSub, Nat.reduceDiv, Nat.reduceMod, Nat.reduceBEq, Nat.reduceBNe, reduceIte, reduceCtorEq, Int.reduceToNat, Int.reduceLT, Int.reduceLE, Int.reduceAdd, Int.reduceSub, Int.reduceMul, Int.reduceNeg, Int.reduceEq, Int.reduceNe, D_G, D_P, List.lookup, tys, rowV, intsV_len, Int.natCast_add, Int.natCast_one]
        · rw [levs_succ r s i (by omega), List.map_set, Nat.add_comm 1 i, List.set_cons_succ]
          simp [lev, h2, hx]
    · simp -implicitDefEqProofs only [s_s, argEnv, PastOK, PendOK, sel, isE, isSp, baseOK, opR, opnd, opnds, opndL, ofConst, look, putE, dstOK, guardL, binR, intOp, loadR, bad, bound, lenV, srcV, Ob.read, V.plain, V.one, V.cells, fillV, setMany, zeros, TK.agg, Sub, cellRes, loadV, bindE, Nat.reduceAdd, Nat.reduceEqDiff, Nat.reduceLT, Nat.reduceLeDiff, Nat.reduceMul, Nat.reduceSub, Nat.reduceDiv, Nat.reduceMod, Nat.reduceBEq, Nat.reduceBNe, reduceIte, reduceCtorEq, Int.reduceToNat, Int.reduceLT, Int.reduceLE, Int.reduceAdd, Int.reduceSub, Int.reduceMul, Int.reduceNeg, Int.reduceEq, Int.reduceNe, D_G, D_P, List.lookup, tys, rowV, intsV_len, w2]
      refine Kl.next (i + 1) (by omega) (by omega) ?_ ?_
      · simp -implicitDefEqProofs only [s_s, argEnv, PastOK, PendOK, sel, isE, isSp, baseOK, opR, opnd, opnds, opndL, ofConst, look, putE, dstOK, guardL, binR, intOp, loadR, bad, bound, lenV, srcV, Ob.read, V.plain, V.one, V.cells, fillV, setMany, zeros, TK.agg, Sub, cellRes, loadV, bindE, Nat.reduceAdd, Nat.reduceEqDiff, Nat.reduceLT, Nat.reduceLeDiff, Nat.reduceMul, Nat.reduceSub, Nat.reduceDiv, Nat.reduceMod, Nat.reduceBEq, Nat.reduceBNe, reduceIte, reduceCtorEq, Int.reduceToNat, Int.reduceLT, Int.reduceLE, Int.reduceAdd, Int.reduceSub, Int.reduceMul, Int.reduceNeg, Int.reduceEq, Int.reduceNe, D_G, D_P, List.lookup, tys, rowV, intsV_len, Int.natCast_add, Int.natCast_one]
      · rw [levs_same r s i (by omega) h2]
  · have : i = r.length := by have : ¬ i < r.length := by simpa using h
                              omega
    subst this
    obtain ⟨a0, a1, a2, a3, a4, a5, a6, a7, e⟩ : ∃ a0 a1 a2 a3 a4 a5 a6 a7, levs r s 8 = [a0, a1, a2, a3, a4, a5, a6, a7] := ⟨_, _, _, _, _, _, _, _, rfl⟩
    rw [levs_full r s r.length (Nat.le_refl _) hl]
    rw [comb_get, e]
    simp -implicitDefEqProofs only [s_s, argEnv, PastOK, PendOK, sel, isE, isSp, baseOK, opR, opnd, opnds, opndL, ofConst, look, putE, dstOK, guardL, binR, intOp, loadR, bad, bound, lenV, srcV, Ob.read, V.plain, V.one, V.cells, fillV, setMany, zeros, TK.agg, Sub, cellRes, loadV, bindE, Nat.reduceAdd, Nat.reduceEqDiff, Nat.reduceLT, Nat.reduceLeDiff, Nat.reduceMul, Nat.reduceSub, Nat.reduceDiv, Nat.reduceMod, Nat.reduceBEq, Nat.reduceBNe, reduceIte, reduceCtorEq, Int.reduceToNat, Int.reduceLT, Int.reduceLE, Int.reduceAdd, Int.reduceSub, Int.reduceMul, Int.reduceNeg, Int.reduceEq, Int.reduceNe, D_G, D_P, List.lookup, tys, rowV, intsV_len]
    refine Post.rc (v := .agg [.int .u64 s, .int .i8 a0, .int .i8 a1, .int .i8 a2, .int .i8 a3, .int .i8 a4, .int .i8 a5, .int .i8 a6, .int .i8 a7]) (by simp -implicitDefEqProofs only [s_s, argEnv, PastOK, PendOK, sel, isE, isSp, baseOK, opR, opnd, opnds, opndL, ofConst, look, putE, dstOK, guardL, binR, intOp, loadR, bad, bound, lenV, srcV, Ob.read, V.plain, V.one, V.cells, fillV, setMany, zeros, TK.agg, Sub, cellRes, loadV, bindE, Nat.reduceAdd, Nat.reduceEqDiff, Nat.reduceLT, Nat.reduceLeDiff, Nat.reduceMul, Nat.reduceSub, Nat.reduceDiv, Nat.reduceMod, Nat.reduceBEq, Nat.reduceBNe, reduceIte, reduceCtorEq, Int.reduceToNat, Int.reduceLT, Int.reduceLE, Int.reduceAdd, Int.reduceSub, Int.reduceMul, Int.reduceNeg, Int.reduceEq, Int.reduceNe, D_G, D_P, List.lookup, tys, rowV, intsV_len]) ⟨_, _, rfl, .keep (by simp [V.bdd, bddL]), by simp -implicitDefEqProofs only [s_s, argEnv, PastOK, PendOK, sel, isE, isSp, baseOK, opR, opnd, opnds, opndL, ofConst, look, putE, dstOK, guardL, binR, intOp, loadR, bad, bound, lenV, srcV, Ob.read, V.plain, V.one, V.cells, fillV, setMany, zeros, TK.agg, Sub, cellRes, loadV, bindE, Nat.reduceAdd, Nat.reduceEqDiff, Nat.reduceLT, Nat.reduceLeDiff, Nat.reduceMul, Nat.reduceSub, Nat.reduceDiv, Nat.reduceMod, Nat.reduceBEq, Nat.reduceBNe, reduceIte, reduceCtorEq, Int.reduceToNat, Int.reduceLT, Int.reduceLE, Int.reduceAdd, Int.reduceSub, Int.reduceMul, Int.reduceNeg, Int.reduceEq, Int.reduceNe, D_G, D_P, List.lookup, tys, rowV, intsV_len]⟩
end Go.VL
end

/- The array seat: sets of columns. -/
section
set_option linter.unusedSimpArgs false
set_option maxRecDepth 4000
namespace Go.VL
open Go Go.Proofs

/-- How many bits are set. -/
def pop (s : Nat) : Nat := ((List.range 8).filter fun j => s.testBit j).length

theorem ones64_spec (s : Nat) (hs : s < 256) (st : St) : VCall D 64 [.int .u64 s] st (fun v st' => v = .int .i64 (pop s) ∧ st' = st) := by
  refine VCall.clean ?_
  refine VCall.of_WP (fn := Tryd.f64) (c := _) Tryd.func64 rfl (by decide +kernel) (Nat.le_of_ble_eq_true rfl) ?_
  refine wpF_sound ?_
  simp -implicitDefEqProofs only [s_s, argEnv, PastOK, PendOK, sel, isE, isSp, baseOK, opR, opnd, opnds, opndL, ofConst, look, putE, dstOK, guardL, binR, intOp, loadR, bad, bound, lenV, srcV, Ob.read, V.plain, V.one, V.cells, fillV, setMany, zeros, TK.agg, Sub, cellRes, loadV, bindE, Nat.reduceAdd, Nat.reduceEqDiff, Nat.reduceLT, Nat.reduceLeDiff, Nat.reduceMul, Nat.reduceSub, Nat.reduceDiv, Nat.reduceMod, Nat.reduceBEq, Nat.reduceBNe, reduceIte, reduceCtorEq, Int.reduceToNat, Int.reduceLT, Int.reduceLE, Int.reduceAdd, Int.reduceSub, Int.reduceMul, Int.reduceNeg, Int.reduceEq, Int.reduceNe, D_G, D_P, List.lookup, tys, rowV, intsV_len, Tryd.ntmps64, Tryd.f64]
  refine Post.r1 rfl ⟨_, [], by simp, .keep rfl, ?_⟩
  refine congrArg (V.int .i64) ?_
  clear st
  revert s
  decide +kernel

theorem ones_spec (s : Nat) (hs : s < 256) (st : St) : VCall D 54 [.int .u64 s] st (fun v st' => v = .int .i64 (pop s) ∧ st' = st) := by
  refine VCall.clean ?_
  refine VCall.of_WP (fn := Tryd.f54) (c := _) Tryd.func54 rfl (by decide +kernel) (Nat.le_of_ble_eq_true rfl) ?_
  refine wpF_sound ?_
  simp -implicitDefEqProofs only [s_s, argEnv, PastOK, PendOK, sel, isE, isSp, baseOK, opR, opnd, opnds, opndL, ofConst, look, putE, dstOK, guardL, binR, intOp, loadR, bad, bound, lenV, srcV, Ob.read, V.plain, V.one, V.cells, fillV, setMany, zeros, TK.agg, Sub, cellRes, loadV, bindE, Nat.reduceAdd, Nat.reduceEqDiff, Nat.reduceLT, Nat.reduceLeDiff, Nat.reduceMul, Nat.reduceSub, Nat.reduceDiv, Nat.reduceMod, Nat.reduceBEq, Nat.reduceBNe, reduceIte, reduceCtorEq, Int.reduceToNat, Int.reduceLT, Int.reduceLE, Int.reduceAdd, Int.reduceSub, Int.reduceMul, Int.reduceNeg, Int.reduceEq, Int.reduceNe, D_G, D_P, List.lookup, tys, rowV, intsV_len, Tryd.ntmps54, Tryd.f54]
  refine Sp.call rfl rfl ?_
  refine (ones64_spec s hs _).mono ?_
  rintro r st' ⟨rfl, rfl⟩
  simp -implicitDefEqProofs only [s_s, argEnv, PastOK, PendOK, sel, isE, isSp, baseOK, opR, opnd, opnds, opndL, ofConst, look, putE, dstOK, guardL, binR, intOp, loadR, bad, bound, lenV, srcV, Ob.read, V.plain, V.one, V.cells, fillV, setMany, zeros, TK.agg, Sub, cellRes, loadV, bindE, Nat.reduceAdd, Nat.reduceEqDiff, Nat.reduceLT, Nat.reduceLeDiff, Nat.reduceMul, Nat.reduceSub, Nat.reduceDiv, Nat.reduceMod, Nat.reduceBEq, Nat.reduceBNe, reduceIte, reduceCtorEq, Int.reduceToNat, Int.reduceLT, Int.reduceLE, Int.reduceAdd, Int.reduceSub, Int.reduceMul, Int.reduceNeg, Int.reduceEq, Int.reduceNe, D_G, D_P, List.lookup, tys, rowV, intsV_len]
  exact Post.r1 rfl ⟨_, [], by simp, .keep rfl, rfl⟩

/-- The function that yields the sets. -/
def setsV (k t : Int) : V := .fn (.func 53) [.pptr [.int .i64 k] 0, .pptr [.int .i64 t] 0]

theorem sets_spec (k t : Int) (st : St) : VCall D 44 [.int .i64 k, .int .i64 t] st (fun v st' => v = setsV k t ∧ st' = st) := by
  refine VCall.clean ?_
  refine VCall.of_WP (fn := Tryd.f44) (c := _) Tryd.func44 rfl (by decide +kernel) (Nat.le_of_ble_eq_true rfl) ?_
  refine wpF_sound ?_
  simp -implicitDefEqProofs only [s_s, argEnv, PastOK, PendOK, sel, isE, isSp, baseOK, opR, opnd, opnds, opndL, ofConst, look, putE, dstOK, guardL, binR, intOp, loadR, bad, bound, lenV, srcV, Ob.read, V.plain, V.one, V.cells, fillV, setMany, zeros, TK.agg, Sub, cellRes, loadV, bindE, Nat.reduceAdd, Nat.reduceEqDiff, Nat.reduceLT, Nat.reduceLeDiff, Nat.reduceMul, Nat.reduceSub, Nat.reduceDiv, Nat.reduceMod, Nat.reduceBEq, Nat.reduceBNe, reduceIte, reduceCtorEq, Int.reduceToNat, Int.reduceLT, Int.reduceLE, Int.reduceAdd, Int.reduceSub, Int.reduceMul, Int.reduceNeg, Int.reduceEq, Int.reduceNe, D_G, D_P, List.lookup, tys, rowV, intsV_len, Tryd.ntmps44, Tryd.f44]
  refine Post.r1 rfl ⟨_, _, rfl, .fn (.cons (.ptr (by omega) (st_get0 _ _) rfl rfl (.cons (.keep rfl) .nil)) (.cons (.ptr (by omega) (st_get _ _ 1) rfl rfl (.cons (.keep rfl) .nil)) .nil)), rfl⟩

/-- The sets of t of k columns, as they are yielded. -/
def setsL (k t : Nat) : List Nat := (List.range (2 ^ k)).filter fun s => pop s == t
/-- How many of them are less than s. -/
def setsN (t s : Nat) : Nat := ((List.range s).filter fun s => pop s == t).length

theorem setsN_skip (t s : Nat) (h : ¬ pop s = t) : setsN t (s + 1) = setsN t s := by simp [setsN, List.range_succ, h]
theorem setsN_take (t s : Nat) (h : pop s = t) : setsN t (s + 1) = setsN t s + 1 := by simp [setsN, List.range_succ, h]

theorem setsL_get (k t s : Nat) (hs : s < 2 ^ k) (h : pop s = t) : (setsL k t)[setsN t s]? = some s := by
  obtain ⟨d, hd⟩ : ∃ d, 2 ^ k = s + (1 + d) := ⟨2 ^ k - s - 1, by omega⟩
  have e : setsL k t = ((List.range s).filter fun s => pop s == t) ++ (s :: ((List.range' (s + 1) d).filter fun s => pop s == t)) := by
    simp only [setsL, hd]
    rw [List.range_eq_range', ← List.range'_append_1, List.filter_append, ← List.range_eq_range', Nat.zero_add, Nat.add_comm 1 d, List.range'_succ, List.filter_cons]
    simp [h]
  rw [e, setsN, List.getElem?_append_right (Nat.le_refl _)]
  simp

theorem shl_at (k : Nat) (hk : k ≤ 8) : IntKind.u64.wrap (1 * 2 ^ min k IntKind.u64.bits) = ((2 ^ k : Nat) : Int) := by
  have : ∀ k, k < 9 → IntKind.u64.wrap (1 * 2 ^ min k IntKind.u64.bits) = ((2 ^ k : Nat) : Int) := by decide +kernel
  exact this k (by omega)

theorem wrapU {n : Int} (h0 : 0 ≤ n) (h1 : n < 1000000) : IntKind.u64.wrap n = n := by
  simp only [IntKind.wrap, IntKind.bits, IntKind.signed]
  simp
  omega

theorem sets1_spec (k t : Nat) (hk : k ≤ 8) (id : Nat) (Φ : Nat → St)
    (hy : ∀ (i s : Nat), (setsL k t)[i]? = some s → VYield D id [.int .u64 s] (Φ i) fun b st' => b = true ∧ st' = Φ (i + 1)) :
    VCall D 53 [.yld id, .pptr [.int .i64 k] 0, .pptr [.int .i64 t] 0] (Φ 0) (fun v st' => v = .tup [] ∧ st' = Φ (setsL k t).length) := by
  refine VCall.of_WP (fn := Tryd.f53) (c := _) Tryd.func53 rfl (by decide +kernel) (Nat.le_of_ble_eq_true rfl) ?_
  refine wpF_sound ?_
  simp -implicitDefEqProofs only [s_s, argEnv, PastOK, PendOK, sel, isE, isSp, baseOK, opR, opnd, opnds, opndL, ofConst, look, putE, dstOK, guardL, binR, intOp, loadR, bad, bound, lenV, srcV, Ob.read, V.plain, V.one, V.cells, fillV, setMany, zeros, TK.agg, Sub, cellRes, loadV, bindE, Nat.reduceAdd, Nat.reduceEqDiff, Nat.reduceLT, Nat.reduceLeDiff, Nat.reduceMul, Nat.reduceSub, Nat.reduceDiv, Nat.reduceMod, Nat.reduceBEq, Nat.reduceBNe, reduceIte, reduceCtorEq, Int.reduceToNat, Int.reduceLT, Int.reduceLE, Int.reduceAdd, Int.reduceSub, Int.reduceMul, Int.reduceNeg, Int.reduceEq, Int.reduceNe, D_G, D_P, List.lookup, tys, rowV, intsV_len, Tryd.ntmps53, Tryd.f53]
  refine ⟨by omega, ?_⟩
  rw [shl_at k hk]
  refine WP.loopF (ι := Nat) (fun s => [(0, .yld id), (2, .pptr [.int .i64 t] 0), (6, .int .u64 (2 ^ k : Nat)), (7, .int .u64 s)]) (fun s => Φ (setsN t s)) (fun s => s ≤ 2 ^ k) (fun s => 2 ^ k - s) 0 (Nat.zero_le _) (by simp -implicitDefEqProofs only [s_s, argEnv, PastOK, PendOK, sel, isE, isSp, baseOK, opR, opnd, opnds, opndL, ofConst, look, putE, dstOK, guardL, binR, intOp, loadR, bad, bound, lenV, srcV, Ob.read, V.plain, V.one, V.cells, fillV, setMany, zeros, TK.agg, Sub, cellRes, loadV, bindE, Nat.reduceAdd, Nat.reduceEqDiff, Nat.reduceLT, Nat.reduceLeDiff, Nat.reduceMul, Nat.reduceSub, Nat.reduceDiv, Nat.reduceMod, Nat.reduceBEq, Nat.reduceBNe, reduceIte, reduceCtorEq, Int.reduceToNat, Int.reduceLT, Int.reduceLE, Int.reduceAdd, Int.reduceSub, Int.reduceMul, Int.reduceNeg, Int.reduceEq, Int.reduceNe, D_G, D_P, List.lookup, tys, rowV, intsV_len]; rfl) rfl ?_
  intro s hs
  have h2k : 2 ^ k ≤ 256 := by have := Nat.pow_le_pow_right (show 0 < 2 by omega) hk; omega
  simp -implicitDefEqProofs only [s_s, argEnv, PastOK, PendOK, sel, isE, isSp, baseOK, opR, opnd, opnds, opndL, ofConst, look, putE, dstOK, guardL, binR, intOp, loadR, bad, bound, lenV, srcV, Ob.read, V.plain, V.one, V.cells, fillV, setMany, zeros, TK.agg, Sub, cellRes, loadV, bindE, Nat.reduceAdd, Nat.reduceEqDiff, Nat.reduceLT, Nat.reduceLeDiff, Nat.reduceMul, Nat.reduceSub, Nat.reduceDiv, Nat.reduceMod, Nat.reduceBEq, Nat.reduceBNe, reduceIte, reduceCtorEq, Int.reduceToNat, Int.reduceLT, Int.reduceLE, Int.reduceAdd, Int.reduceSub, Int.reduceMul, Int.reduceNeg, Int.reduceEq, Int.reduceNe, D_G, D_P, List.lookup, tys, rowV, intsV_len]
  refine Br.intro (fun h => ?_) (fun h => ?_)
  · have h' : s < 2 ^ k := by
      have : (s : Int) < ((2 ^ k : Nat) : Int) := by simpa using h
      omega
    have w : IntKind.u64.wrap ((s : Int) + 1) = s + 1 := wrapU (by omega) (by omega)
    simp -implicitDefEqProofs only [s_s, argEnv, PastOK, PendOK, sel, isE, isSp, baseOK, opR, opnd, opnds, opndL, ofConst, look, putE, dstOK, guardL, binR, intOp, loadR, bad, bound, lenV, srcV, Ob.read, V.plain, V.one, V.cells, fillV, setMany, zeros, TK.agg, Sub, cellRes, loadV, bindE, Nat.reduceAdd, Nat.reduceEqDiff, Nat.reduceLT, Nat.reduceLeDiff, Nat.reduceMul, Nat.reduceSub, Nat.reduceDiv, Nat.reduceMod, Nat.reduceBEq, Nat.reduceBNe, reduceIte, reduceCtorEq, Int.reduceToNat, Int.reduceLT, Int.reduceLE, Int.reduceAdd, Int.reduceSub, Int.reduceMul, Int.reduceNeg, Int.reduceEq, Int.reduceNe, D_G, D_P, List.lookup, tys, rowV, intsV_len]
    refine WP.drawF [(0, 0, 0, [4]), (1, 0, 1, [10]), (0, 0, 1, [2]), (7, 1, 1, [11, 12]), (15, 1, 1, [13]), (31, 1, 1, [0, 14]), (31, 1, 1, [4, 14]), (127, 1, 2, [15, 16, 14]), (255, 2, 2, [17, 14]), (511, 2, 2, [14, 18])] D_mixed (by decide +kernel) ?_
    simp -implicitDefEqProofs only [s_s, argEnv, PastOK, PendOK, sel, isE, isSp, baseOK, opR, opnd, opnds, opndL, ofConst, look, putE, dstOK, guardL, binR, intOp, loadR, bad, bound, lenV, srcV, Ob.read, V.plain, V.one, V.cells, fillV, setMany, zeros, TK.agg, Sub, cellRes, loadV, bindE, Nat.reduceAdd, Nat.reduceEqDiff, Nat.reduceLT, Nat.reduceLeDiff, Nat.reduceMul, Nat.reduceSub, Nat.reduceDiv, Nat.reduceMod, Nat.reduceBEq, Nat.reduceBNe, reduceIte, reduceCtorEq, Int.reduceToNat, Int.reduceLT, Int.reduceLE, Int.reduceAdd, Int.reduceSub, Int.reduceMul, Int.reduceNeg, Int.reduceEq, Int.reduceNe, D_G, D_P, List.lookup, tys, rowV, intsV_len]
    refine SpD.call rfl rfl (ones_spec s (by omega) _) ?_
    simp -implicitDefEqProofs only [s_s, argEnv, PastOK, PendOK, sel, isE, isSp, baseOK, opR, opnd, opnds, opndL, ofConst, look, putE, dstOK, guardL, binR, intOp, loadR, bad, bound, lenV, srcV, Ob.read, V.plain, V.one, V.cells, fillV, setMany, zeros, TK.agg, Sub, cellRes, loadV, bindE, Nat.reduceAdd, Nat.reduceEqDiff, Nat.reduceLT, Nat.reduceLeDiff, Nat.reduceMul, Nat.reduceSub, Nat.reduceDiv, Nat.reduceMod, Nat.reduceBEq, Nat.reduceBNe, reduceIte, reduceCtorEq, Int.reduceToNat, Int.reduceLT, Int.reduceLE, Int.reduceAdd, Int.reduceSub, Int.reduceMul, Int.reduceNeg, Int.reduceEq, Int.reduceNe, D_G, D_P, List.lookup, tys, rowV, intsV_len]
    refine DrawG.intro (fun h => ?_) (fun h => ?_)
    · have hp : pop s = t := by have := of_decide_eq_true h; omega
      simp -implicitDefEqProofs only [s_s, argEnv, PastOK, PendOK, sel, isE, isSp, baseOK, opR, opnd, opnds, opndL, ofConst, look, putE, dstOK, guardL, binR, intOp, loadR, bad, bound, lenV, srcV, Ob.read, V.plain, V.one, V.cells, fillV, setMany, zeros, TK.agg, Sub, cellRes, loadV, bindE, Nat.reduceAdd, Nat.reduceEqDiff, Nat.reduceLT, Nat.reduceLeDiff, Nat.reduceMul, Nat.reduceSub, Nat.reduceDiv, Nat.reduceMod, Nat.reduceBEq, Nat.reduceBNe, reduceIte, reduceCtorEq, Int.reduceToNat, Int.reduceLT, Int.reduceLE, Int.reduceAdd, Int.reduceSub, Int.reduceMul, Int.reduceNeg, Int.reduceEq, Int.reduceNe, D_G, D_P, List.lookup, tys, rowV, intsV_len, h]
      refine SpD.yield rfl rfl (hy _ s (setsL_get k t s h' hp)) ?_
      simp -implicitDefEqProofs only [s_s, argEnv, PastOK, PendOK, sel, isE, isSp, baseOK, opR, opnd, opnds, opndL, ofConst, look, putE, dstOK, guardL, binR, intOp, loadR, bad, bound, lenV, srcV, Ob.read, V.plain, V.one, V.cells, fillV, setMany, zeros, TK.agg, Sub, cellRes, loadV, bindE, Nat.reduceAdd, Nat.reduceEqDiff, Nat.reduceLT, Nat.reduceLeDiff, Nat.reduceMul, Nat.reduceSub, Nat.reduceDiv, Nat.reduceMod, Nat.reduceBEq, Nat.reduceBNe, reduceIte, reduceCtorEq, Int.reduceToNat, Int.reduceLT, Int.reduceLE, Int.reduceAdd, Int.reduceSub, Int.reduceMul, Int.reduceNeg, Int.reduceEq, Int.reduceNe, D_G, D_P, List.lookup, tys, rowV, intsV_len, w]
      refine Kl.next (s + 1) (by omega) (by omega) ?_ ?_
      · simp -implicitDefEqProofs only [s_s, argEnv, PastOK, PendOK, sel, isE, isSp, baseOK, opR, opnd, opnds, opndL, ofConst, look, putE, dstOK, guardL, binR, intOp, loadR, bad, bound, lenV, srcV, Ob.read, V.plain, V.one, V.cells, fillV, setMany, zeros, TK.agg, Sub, cellRes, loadV, bindE, Nat.reduceAdd, Nat.reduceEqDiff, Nat.reduceLT, Nat.reduceLeDiff, Nat.reduceMul, Nat.reduceSub, Nat.reduceDiv, Nat.reduceMod, Nat.reduceBEq, Nat.reduceBNe, reduceIte, reduceCtorEq, Int.reduceToNat, Int.reduceLT, Int.reduceLE, Int.reduceAdd, Int.reduceSub, Int.reduceMul, Int.reduceNeg, Int.reduceEq, Int.reduceNe, D_G, D_P, List.lookup, tys, rowV, intsV_len, Int.natCast_add, Int.natCast_one]
      · rw [setsN_take t s hp]
    · have hp : ¬ pop s = t := by have := of_decide_eq_false h; omega
      simp -implicitDefEqProofs only [s_s, argEnv, PastOK, PendOK, sel, isE, isSp, baseOK, opR, opnd, opnds, opndL, ofConst, look, putE, dstOK, guardL, binR, intOp, loadR, bad, bound, lenV, srcV, Ob.read, V.plain, V.one, V.cells, fillV, setMany, zeros, TK.agg, Sub, cellRes, loadV, bindE, Nat.reduceAdd, Nat.reduceEqDiff, Nat.reduceLT, Nat.reduceLeDiff, Nat.reduceMul, Nat.reduceSub, Nat.reduceDiv, Nat.reduceMod, Nat.reduceBEq, Nat.reduceBNe, reduceIte, reduceCtorEq, Int.reduceToNat, Int.reduceLT, Int.reduceLE, Int.reduceAdd, Int.reduceSub, Int.reduceMul, Int.reduceNeg, Int.reduceEq, Int.reduceNe, D_G, D_P, List.lookup, tys, rowV, intsV_len, h, w]
      refine Kl.next (s + 1) (by omega) (by omega) ?_ ?_
      · simp -implicitDefEqProofs only [s_s, argEnv, PastOK, PendOK, sel, isE, isSp, baseOK, opR, opnd, opnds, opndL, ofConst, look, putE, dstOK, guardL, binR, intOp, loadR, bad, bound, lenV, srcV, Ob.read, V.plain, V.one, V.cells, fillV, setMany, zeros, TK.agg, Sub, cellRes, loadV, bindE, Nat.reduceAdd, Nat.reduceEqDiff, Nat.reduceLT, Nat.reduceLeDiff, Nat.reduceMul, Nat.reduceSub, Nat.reduceDiv, Nat.reduceMod, Nat.reduceBEq, Nat.reduceBNe, reduceIte, reduceCtorEq, Int.reduceToNat, Int.reduceLT, Int.reduceLE, Int.reduceAdd, Int.reduceSub, Int.reduceMul, Int.reduceNeg, Int.reduceEq, Int.reduceNe, D_G, D_P, List.lookup, tys, rowV, intsV_len, Int.natCast_add, Int.natCast_one]
      · rw [setsN_skip t s hp]
  · have : s = 2 ^ k := by
      have : ¬ (s : Int) < ((2 ^ k : Nat) : Int) := by simpa using h
      omega
    subst this
    simp -implicitDefEqProofs only [s_s, argEnv, PastOK, PendOK, sel, isE, isSp, baseOK, opR, opnd, opnds, opndL, ofConst, look, putE, dstOK, guardL, binR, intOp, loadR, bad, bound, lenV, srcV, Ob.read, V.plain, V.one, V.cells, fillV, setMany, zeros, TK.agg, Sub, cellRes, loadV, bindE, Nat.reduceAdd, Nat.reduceEqDiff, Nat.reduceLT, Nat.reduceLeDiff, Nat.reduceMul, Nat.reduceSub, Nat.reduceDiv, Nat.reduceMod, Nat.reduceBEq, Nat.reduceBNe, reduceIte, reduceCtorEq, Int.reduceToNat, Int.reduceLT, Int.reduceLE, Int.reduceAdd, Int.reduceSub, Int.reduceMul, Int.reduceNeg, Int.reduceEq, Int.reduceNe, D_G, D_P, List.lookup, tys, rowV, intsV_len]
    exact Post.n0 ⟨rfl, rfl⟩
end Go.VL
end

/- The array seat: which combinations occur, and how often. -/
section
set_option linter.unusedSimpArgs false
set_option maxRecDepth 4000
namespace Go.VL
open Go Go.Proofs

theorem co77 : Tryd.prog.cellsOf 77 = 9 := by kernel_rfl
theorem co75 : Tryd.prog.cellsOf 75 = 8 := by kernel_rfl
theorem co74 : Tryd.prog.cellsOf 74 = 1 := by kernel_rfl
theorem co35 : Tryd.prog.cellsOf 35 = 1 := by kernel_rfl
theorem kt77 : Tryd.prog.keyType 77 = true := by kernel_rfl
theorem sizeT : Tryd.prog.types.size = 145 + 1 := by kernel_rfl

theorem wfS (n : Nat) (h : n < 256) : (Lit.int .u64 n).wf = true := by
  have : ∀ n, n < 256 → (Lit.int .u64 (n : Nat)).wf = true := by decide +kernel
  exact this n h
theorem wfL (x : Int) (h : 0 ≤ x ∧ x < 8) : (Lit.int .i8 x).wf = true := by
  have : ∀ n, n < 8 → (Lit.int .i8 ((n : Nat) : Int)).wf = true := by decide +kernel
  obtain ⟨n, rfl⟩ := Int.eq_ofNat_of_zero_le h.1
  exact this n (by omega)

theorem bits_int {d : Nat} {t : TypeId} {q : IntKind} {n : Int} (h : Tryd.prog.underlying t = some (.int q)) (hw : (Lit.int q n).wf = true) : Tryd.prog.keyLits (d + 1) t [.int q n] = some [.int q n] := by
  simp only [Program.keyLits, h, hw, and_self, if_true]

theorem key_ok (n : Nat) (hn : n < 256) (a0 a1 a2 a3 a4 a5 a6 a7 : Int) (h0 : 0 ≤ a0 ∧ a0 < 8) (h1 : 0 ≤ a1 ∧ a1 < 8) (h2 : 0 ≤ a2 ∧ a2 < 8) (h3 : 0 ≤ a3 ∧ a3 < 8) (h4 : 0 ≤ a4 ∧ a4 < 8) (h5 : 0 ≤ a5 ∧ a5 < 8) (h6 : 0 ≤ a6 ∧ a6 < 8) (h7 : 0 ≤ a7 ∧ a7 < 8) :
    okKey Tryd.prog 77 (.cells [(.u64, (n : Int)), (.i8, a0), (.i8, a1), (.i8, a2), (.i8, a3), (.i8, a4), (.i8, a5), (.i8, a6), (.i8, a7)]) := by
  have e75 : ∀ d, Tryd.prog.keyLits (d + 2) 75 [.int .i8 a0, .int .i8 a1, .int .i8 a2, .int .i8 a3, .int .i8 a4, .int .i8 a5, .int .i8 a6, .int .i8 a7] = some [.int .i8 a0, .int .i8 a1, .int .i8 a2, .int .i8 a3, .int .i8 a4, .int .i8 a5, .int .i8 a6, .int .i8 a7] := by
    intro d
    have b := fun x h => bits_int (d := d) Tryd.underlying74 (wfL x h)
    have r8 : List.range 8 = [0, 1, 2, 3, 4, 5, 6, 7] := rfl
    show Tryd.prog.keyLits ((d + 1) + 1) 75 _ = _
    unfold Program.keyLits
    simp only [Tryd.underlying75, co75, co74, List.length_cons, List.length_nil, r8]
    simp [b, h0, h1, h2, h3, h4, h5, h6, h7]
  have e77 : Tryd.prog.keyLits (Tryd.prog.types.size + 1) 77 [.int .u64 n, .int .i8 a0, .int .i8 a1, .int .i8 a2, .int .i8 a3, .int .i8 a4, .int .i8 a5, .int .i8 a6, .int .i8 a7] = some [.int .u64 n, .int .i8 a0, .int .i8 a1, .int .i8 a2, .int .i8 a3, .int .i8 a4, .int .i8 a5, .int .i8 a6, .int .i8 a7] := by
    rw [sizeT]
    have b := bits_int (d := 145) Tryd.underlying35 (wfS n hn)
    unfold Program.keyLits
    simp only [Tryd.underlying77, co77, co35, co75, List.length_cons, List.length_nil]
    simp [b, e75 144, co35, co75]
  have hok : keyOf Tryd.prog 77 (Key.cells [(.u64, (n : Int)), (.i8, a0), (.i8, a1), (.i8, a2), (.i8, a3), (.i8, a4), (.i8, a5), (.i8, a6), (.i8, a7)]).value = some (.string (keyBytes [.int .u64 n, .int .i8 a0, .int .i8 a1, .int .i8 a2, .int .i8 a3, .int .i8 a4, .int .i8 a5, .int .i8 a6, .int .i8 a7])) := by
    simp only [keyOf, Tryd.underlying77, kt77, Bool.true_and, Value.formed, Key.value, co77, Value.cells, List.map_cons, List.map_nil, List.size_toArray, List.length_cons, List.length_nil, e77, Option.map_some]
    rfl
  simp only [okKey, Tryd.underlying77]
  exact ⟨_, hok⟩
theorem iter_sets (k t : Nat) (hk : k ≤ 8) : IterC D 53 [.pptr [.int .i64 k] 0, .pptr [.int .i64 t] 0] ((setsL k t).map fun s : Nat => V.int .u64 s) := by
  intro id Φ h
  rw [List.length_map]
  exact (sets1_spec k t hk id Φ fun i s hs => h i _ (by simp [hs])).mono fun v st' ⟨_, h2⟩ => h2

/-- The combination of a row in a set of columns. -/
def comb (r : List Int) (s : Nat) : Key := .cells (combC r s 8)

theorem lev_ok (r : List Int) (s j : Nat) (hr : ∀ x ∈ r, 0 ≤ x ∧ x < 8) : 0 ≤ lev r s j ∧ lev r s j < 8 := by
  simp only [lev]
  split
  · cases h : r[j]? with
    | none => simp
    | some x => simpa using hr x (List.mem_of_getElem? h)
  · omega

theorem comb_ok (r : List Int) (s : Nat) (hr : ∀ x ∈ r, 0 ≤ x ∧ x < 8) (hs : s < 256) : okKey Tryd.prog 77 (comb r s) :=
  key_ok s hs _ _ _ _ _ _ _ _ (lev_ok r s 0 hr) (lev_ok r s 1 hr) (lev_ok r s 2 hr) (lev_ok r s 3 hr) (lev_ok r s 4 hr) (lev_ok r s 5 hr) (lev_ok r s 6 hr) (lev_ok r s 7 hr)

theorem keyV_comb (r : List Int) (s : Nat) : keyV (.agg (cellsI (combC r s 8))) = some (comb r s) := by
  simp only [keyV, cellsI, intsOf_map]; rfl

/-- How often a key occurs. -/
def times (l : List Key) (k : Key) : Nat := l.countP fun x => decide (x = k)

/-- One more of a key. -/
def bump (es : List (Key × V)) (k : Key) : List (Key × V) := putK es k (match (lookK es k).getD (.int .i64 0) with
  | .int _ n => .int .i64 (n + 1)
  | v => v)

/-- The entries after some keys. -/
def tally (l : List Key) : List (Key × V) := l.foldl bump []

theorem tally_snoc (l : List Key) (k : Key) : tally (l ++ [k]) = bump (tally l) k := by simp [tally]

theorem bump_keys {P : Program} {kt : TypeId} {es : List (Key × V)} {k : Key} (h : keysOK P kt es) (hk : okKey P kt k) : keysOK P kt (bump es k) := by
  intro p hp
  rcases mem_putK hp with hp | rfl
  · exact h p hp
  · exact hk

theorem tally_keys {P : Program} {kt : TypeId} {l : List Key} (h : ∀ k ∈ l, okKey P kt k) : keysOK P kt (tally l) := by
  have : ∀ (l : List Key) (es : List (Key × V)), (∀ k ∈ l, okKey P kt k) → keysOK P kt es → keysOK P kt (l.foldl bump es) := by
    intro l
    induction l with
    | nil => intro es _ h; exact h
    | cons k l ih => intro es h1 h2; exact ih _ (fun k hk => h1 k (by simp [hk])) (bump_keys h2 (h1 k (by simp)))
  exact this l [] h (fun p hp => by cases hp)

/-- All values are numbers. -/
def Cnts (es : List (Key × V)) : Prop := ∀ p ∈ es, ∃ n : Nat, p.2 = .int .i64 n ∧ n ≤ 1000000

theorem lookK_mem {es : List (Key × V)} {k : Key} {v : V} (h : lookK es k = some v) : (k, v) ∈ es := by
  induction es with
  | nil => cases h
  | cons p r ih =>
    obtain ⟨k', v'⟩ := p
    simp only [lookK] at h
    split at h
    · rename_i e; cases h; subst e; exact List.mem_cons_self
    · exact List.mem_cons_of_mem _ (ih h)

/-- What a tally holds: how often each key occurs. -/
theorem tally_look (l : List Key) (k : Key) : lookK (tally l) k = if times l k = 0 then none else some (.int .i64 (times l k)) := by
  have base : ∀ (es : List (Key × V)) (k k' : Key) (v : V), k' ≠ k → lookK (putK es k v) k' = lookK es k' := by
    intro es k k' v hne
    induction es with
    | nil => simp [putK, lookK, Ne.symm hne]
    | cons p r ih =>
      obtain ⟨q, u⟩ := p
      simp only [putK]
      split
      · rename_i e; subst e; simp only [lookK]; rw [if_neg (Ne.symm hne), if_neg (Ne.symm hne)]
      · simp only [lookK]; rw [ih]
  have : ∀ n, ∀ l : List Key, l.length = n → ∀ k, lookK (tally l) k = if times l k = 0 then none else some (.int .i64 (times l k)) := by
    intro n
    induction n with
    | zero => intro l hl k; have : l = [] := List.length_eq_zero_iff.1 hl; subst this; simp [tally, lookK, times]
    | succ n ih =>
      intro l hl k
      rcases List.eq_nil_or_concat l with rfl | ⟨l', a, rfl⟩
      · simp at hl
      · have hl' : l'.length = n := by simpa using hl
        rw [List.concat_eq_append, tally_snoc]
        have ht : times (l' ++ [a]) k = times l' k + (if a = k then 1 else 0) := by simp [times, List.countP_append, List.countP_cons]
        rw [ht]
        unfold bump
        by_cases e : a = k
        · subst e
          rw [lookK_putK, ih l' hl' a]
          by_cases h0 : times l' a = 0
          · simp [h0]
          · simp [h0]
        · rw [base _ _ _ _ (Ne.symm e), ih l' hl' k]
          simp [e]
  exact this l.length l rfl k

/-- All combinations of the rows in some sets of columns. -/
def combs (R : List (List Int)) (l : List Nat) : List Key := l.flatMap fun s => R.map fun r => comb r s

theorem combs_step {R : List (List Int)} {k t i s : Nat} (hs : (setsL k t)[i]? = some s) : combs R ((setsL k t).take (i + 1)) = combs R ((setsL k t).take i) ++ R.map fun r => comb r s := by
  rw [List.take_add_one, hs]
  simp [combs]

theorem setsL_lt {k t i s : Nat} (hk : k ≤ 8) (hs : (setsL k t)[i]? = some s) : s < 256 := by
  have hm := List.mem_of_getElem? hs
  simp only [setsL, List.mem_filter, List.mem_range] at hm
  have := Nat.pow_le_pow_right (show 0 < 2 by omega) hk
  omega

theorem tally_getD (l : List Key) (k : Key) : (lookK (tally l) k).getD (.int .i64 0) = .int .i64 (times l k) := by
  rw [tally_look]
  split
  · rename_i h; simp [h]
  · rfl

theorem times_le (l : List Key) (k : Key) : times l k ≤ l.length := List.countP_le_length

theorem combs_len (R : List (List Int)) (l : List Nat) : (combs R l).length = l.length * R.length := by
  induction l with
  | nil => simp [combs]
  | cons s l ih =>
    have : combs R (s :: l) = (R.map fun r => comb r s) ++ combs R l := by simp [combs]
    rw [this, List.length_append, ih, List.length_map, List.length_cons, Nat.succ_mul]; omega

theorem setsL_len {k t : Nat} (hk : k ≤ 8) : (setsL k t).length ≤ 256 := by
  have h1 := List.length_filter_le (fun s => pop s == t) (List.range (2 ^ k))
  have := Nat.pow_le_pow_right (show 0 < 2 by omega) hk
  simp only [setsL, List.length_range] at h1 ⊢
  omega

theorem combs_mem {R : List (List Int)} {l : List Nat} {q : Key} (h : q ∈ combs R l) : ∃ s ∈ l, ∃ r ∈ R, q = comb r s := by
  simp only [combs, List.mem_flatMap, List.mem_map] at h
  obtain ⟨s, hs, r, hr, rfl⟩ := h
  exact ⟨s, hs, r, hr, rfl⟩

theorem setsL_mem {k t s : Nat} (hk : k ≤ 8) (hs : s ∈ setsL k t) : s < 256 := by
  obtain ⟨i, hi⟩ := List.getElem?_of_mem hs
  exact setsL_lt hk hi

theorem combs_ok {R : List (List Int)} {k t i j s : Nat} (hk : k ≤ 8) (hc : ∀ r ∈ R, r.length = k ∧ ∀ x ∈ r, 0 ≤ x ∧ x < 8) (hs : s < 256) : ∀ q ∈ combs R ((setsL k t).take i) ++ (R.take j).map (fun r => comb r s), okKey Tryd.prog 77 q := by
  intro q hq
  rcases List.mem_append.1 hq with hq | hq
  · obtain ⟨s', hs', r, hr, rfl⟩ := combs_mem hq
    exact comb_ok r s' (hc r hr).2 (setsL_mem hk (List.mem_of_mem_take hs'))
  · obtain ⟨r, hr, rfl⟩ := List.mem_map.1 hq
    exact comb_ok r s (hc r (List.mem_of_mem_take hr)).2 hs

theorem combs_bound {R : List (List Int)} {k t i j s : Nat} (hk : k ≤ 8) (hRn : R.length ≤ 64) : (combs R ((setsL k t).take i) ++ (R.take j).map (fun r => comb r s)).length ≤ 100000 := by
  rw [List.length_append, combs_len, List.length_map, List.length_take, List.length_take]
  have h1 := setsL_len (t := t) hk
  have h2 : min i (setsL k t).length * R.length ≤ 256 * 64 := Nat.mul_le_mul (by omega) hRn
  omega

theorem tally_bdd (n : Nat) (l : List Key) : entsBdd n (tally l) = true := by
  have put : ∀ (es : List (Key × V)) (k : Key) (v : V), v.bdd n = true → entsBdd n es = true → entsBdd n (putK es k v) = true := by
    intro es k v hv
    induction es with
    | nil => intro _; simp [putK, entsBdd, hv]
    | cons p r ih =>
      obtain ⟨q, u⟩ := p
      intro h
      simp only [entsBdd, Bool.and_eq_true] at h
      simp only [putK]
      split
      · simp [entsBdd, hv, h.2]
      · simp [entsBdd, h.1, ih h.2]
  have : ∀ m, ∀ l : List Key, l.length = m → entsBdd n (tally l) = true := by
    intro m
    induction m with
    | zero => intro l hl; have : l = [] := List.length_eq_zero_iff.1 hl; subst this; rfl
    | succ m ih =>
      intro l hl
      rcases List.eq_nil_or_concat l with rfl | ⟨l', a, rfl⟩
      · simp at hl
      · rw [List.concat_eq_append, tally_snoc, bump, tally_getD]
        exact put _ _ _ rfl (ih l' (by simpa using hl))
  exact this l.length l rfl

theorem occurring_spec (S : Int) (R : List (List Int)) (k t : Nat) (hk : k ≤ 8) (hR : 0 < R.length) (hRn : R.length ≤ 64) (hc : ∀ r ∈ R, r.length = k ∧ ∀ x ∈ r, 0 ≤ x ∧ x < 8) (st : St) {K : V → St → Prop} (hK : K (.map st.length) (st ++ [.map (tally (combs R (setsL k t)))])) :
    VCall D 35 [arrV S R, .int .i64 t] st K := by
  obtain ⟨r0, hr0⟩ : ∃ r0, R[0]? = some r0 := ⟨_, List.getElem?_eq_getElem hR⟩
  have hk0 : r0.length = k := (hc r0 (List.mem_of_getElem? hr0)).1
  have hv0 : (R.map rowV)[0]? = some (rowV r0) := by simp [hr0]
  refine VCall.own ?_
  refine VCall.of_WP (fn := Tryd.f35) (c := _) Tryd.func35 rfl (by decide +kernel) (Nat.le_of_ble_eq_true rfl) ?_
  refine wpF_sound ?_
  simp -implicitDefEqProofs only [s_s, argEnv, PastOK, PendOK, sel, isE, isSp, baseOK, opR, opnd, opnds, opndL, ofConst, look, putE, dstOK, guardL, binR, intOp, loadR, bad, bound, lenV, srcV, Ob.read, V.plain, V.one, V.cells, fillV, setMany, zeros, TK.agg, Sub, cellRes, loadV, bindE, Nat.reduceAdd, Nat.reduceEqDiff, Nat.reduceLT, Nat.reduceLeDiff, Nat.reduceMul, Nat.reduceSub, Nat.reduceDiv, Nat.reduceMod, Nat.reduceBEq, Nat.reduceBNe, reduceIte, reduceCtorEq, Int.reduceToNat, Int.reduceLT, Int.reduceLE, Int.reduceAdd, Int.reduceSub, Int.reduceMul, Int.reduceNeg, Int.reduceEq, Int.reduceNe, D_G, D_P, List.lookup, tys, intsV_len, Tryd.ntmps35, Tryd.f35, arrV, hv0, rowV]
  refine ⟨by omega, ?_⟩
  refine Sp.call rfl rfl ?_
  refine (sets_spec _ _ _).mono ?_
  rintro r st' ⟨rfl, rfl⟩
  simp -implicitDefEqProofs only [s_s, argEnv, PastOK, PendOK, sel, isE, isSp, baseOK, opR, opnd, opnds, opndL, ofConst, look, putE, dstOK, guardL, binR, intOp, loadR, bad, bound, lenV, srcV, Ob.read, V.plain, V.one, V.cells, fillV, setMany, zeros, TK.agg, Sub, cellRes, loadV, bindE, Nat.reduceAdd, Nat.reduceEqDiff, Nat.reduceLT, Nat.reduceLeDiff, Nat.reduceMul, Nat.reduceSub, Nat.reduceDiv, Nat.reduceMod, Nat.reduceBEq, Nat.reduceBNe, reduceIte, reduceCtorEq, Int.reduceToNat, Int.reduceLT, Int.reduceLE, Int.reduceAdd, Int.reduceSub, Int.reduceMul, Int.reduceNeg, Int.reduceEq, Int.reduceNe, D_G, D_P, List.lookup, tys, intsV_len, hk0, setsV]
  refine WP.rangeIter ((setsL k t).map fun s : Nat => V.int .u64 s) (fun i lb => st ++ [.cells 0 [.int .i64 S, .lst 1 (R.map rowV)], .map (tally (combs R ((setsL k t).take i))), .cells 0 [.map (st.length + 1)], lb]) rfl (iter_sets k t hk) (by decide) (fun ob => by simp; rfl) (fun i ob => by simp) (fun i ob ob' => by simp) ?_ ?_
  · intro i x lr lb hx
    obtain ⟨s, hs, rfl⟩ : ∃ s, (setsL k t)[i]? = some s ∧ x = .int .u64 (s : Nat) := by
      simp only [List.getElem?_map, Option.map_eq_some_iff] at hx
      obtain ⟨s, h1, h2⟩ := hx
      exact ⟨s, h1, h2.symm⟩
    refine wpF_sound ?_
    simp -implicitDefEqProofs only [s_s, argEnv, PastOK, PendOK, sel, isE, isSp, baseOK, opR, opnd, opnds, opndL, ofConst, look, putE, dstOK, guardL, binR, intOp, loadR, bad, bound, lenV, srcV, Ob.read, V.plain, V.one, V.cells, fillV, setMany, zeros, TK.agg, Sub, cellRes, loadV, bindE, Nat.reduceAdd, Nat.reduceEqDiff, Nat.reduceLT, Nat.reduceLeDiff, Nat.reduceMul, Nat.reduceSub, Nat.reduceDiv, Nat.reduceMod, Nat.reduceBEq, Nat.reduceBNe, reduceIte, reduceCtorEq, Int.reduceToNat, Int.reduceLT, Int.reduceLE, Int.reduceAdd, Int.reduceSub, Int.reduceMul, Int.reduceNeg, Int.reduceEq, Int.reduceNe, D_G, D_P, List.lookup, tys, intsV_len]
    refine ⟨rfl, rfl, wpF_sound ?_⟩
    simp -implicitDefEqProofs only [s_s, argEnv, PastOK, PendOK, sel, isE, isSp, baseOK, opR, opnd, opnds, opndL, ofConst, look, putE, dstOK, guardL, binR, intOp, loadR, bad, bound, lenV, srcV, Ob.read, V.plain, V.one, V.cells, fillV, setMany, zeros, TK.agg, Sub, cellRes, loadV, bindE, Nat.reduceAdd, Nat.reduceEqDiff, Nat.reduceLT, Nat.reduceLeDiff, Nat.reduceMul, Nat.reduceSub, Nat.reduceDiv, Nat.reduceMod, Nat.reduceBEq, Nat.reduceBNe, reduceIte, reduceCtorEq, Int.reduceToNat, Int.reduceLT, Int.reduceLE, Int.reduceAdd, Int.reduceSub, Int.reduceMul, Int.reduceNeg, Int.reduceEq, Int.reduceNe, D_G, D_P, List.lookup, tys, intsV_len]
    have hs256 : s < 256 := setsL_lt hk hs
    refine WP.loopF (ι := Nat) (fun j => [(2, .ptr st.length 0 0), (5, .ptr (st.length + 2) 0 0), (6, .int .u64 (s : Nat)), (19, .lst 1 (R.map rowV)), (20, .int .i64 R.length), (21, .int .i64 j)])
      (fun j => st ++ [.cells 0 [.int .i64 S, .lst 1 (R.map rowV)], .map (tally (combs R ((setsL k t).take i) ++ (R.take j).map fun r => comb r s)), .cells 0 [.map (st.length + 1)], lb]) (fun j => j ≤ R.length) (fun j => R.length - j) 0 (Nat.zero_le _) (by simp -implicitDefEqProofs only [s_s, argEnv, PastOK, PendOK, sel, isE, isSp, baseOK, opR, opnd, opnds, opndL, ofConst, look, putE, dstOK, guardL, binR, intOp, loadR, bad, bound, lenV, srcV, Ob.read, V.plain, V.one, V.cells, fillV, setMany, zeros, TK.agg, Sub, cellRes, loadV, bindE, Nat.reduceAdd, Nat.reduceEqDiff, Nat.reduceLT, Nat.reduceLeDiff, Nat.reduceMul, Nat.reduceSub, Nat.reduceDiv, Nat.reduceMod, Nat.reduceBEq, Nat.reduceBNe, reduceIte, reduceCtorEq, Int.reduceToNat, Int.reduceLT, Int.reduceLE, Int.reduceAdd, Int.reduceSub, Int.reduceMul, Int.reduceNeg, Int.reduceEq, Int.reduceNe, D_G, D_P, List.lookup, tys, intsV_len]; simp) (by simp) ?_
    intro j hj
    simp -implicitDefEqProofs only [s_s, argEnv, PastOK, PendOK, sel, isE, isSp, baseOK, opR, opnd, opnds, opndL, ofConst, look, putE, dstOK, guardL, binR, intOp, loadR, bad, bound, lenV, srcV, Ob.read, V.plain, V.one, V.cells, fillV, setMany, zeros, TK.agg, Sub, cellRes, loadV, bindE, Nat.reduceAdd, Nat.reduceEqDiff, Nat.reduceLT, Nat.reduceLeDiff, Nat.reduceMul, Nat.reduceSub, Nat.reduceDiv, Nat.reduceMod, Nat.reduceBEq, Nat.reduceBNe, reduceIte, reduceCtorEq, Int.reduceToNat, Int.reduceLT, Int.reduceLE, Int.reduceAdd, Int.reduceSub, Int.reduceMul, Int.reduceNeg, Int.reduceEq, Int.reduceNe, D_G, D_P, List.lookup, tys, intsV_len]
    refine Br.intro (fun h => ?_) (fun h => ?_)
    · have h' : j < R.length := by simpa using h
      obtain ⟨r, hr⟩ : ∃ r, R[j]? = some r := ⟨_, List.getElem?_eq_getElem h'⟩
      have hv : (R.map rowV)[j]? = some (rowV r) := by simp [hr]
      have hrm := hc r (List.mem_of_getElem? hr)
      have w2 := wrapI (n := (j : Int) + 1) (by omega) (by omega)
      simp -implicitDefEqProofs only [s_s, argEnv, PastOK, PendOK, sel, isE, isSp, baseOK, opR, opnd, opnds, opndL, ofConst, look, putE, dstOK, guardL, binR, intOp, loadR, bad, bound, lenV, srcV, Ob.read, V.plain, V.one, V.cells, fillV, setMany, zeros, TK.agg, Sub, cellRes, loadV, bindE, Nat.reduceAdd, Nat.reduceEqDiff, Nat.reduceLT, Nat.reduceLeDiff, Nat.reduceMul, Nat.reduceSub, Nat.reduceDiv, Nat.reduceMod, Nat.reduceBEq, Nat.reduceBNe, reduceIte, reduceCtorEq, Int.reduceToNat, Int.reduceLT, Int.reduceLE, Int.reduceAdd, Int.reduceSub, Int.reduceMul, Int.reduceNeg, Int.reduceEq, Int.reduceNe, D_G, D_P, List.lookup, tys, intsV_len, hv]
      refine ⟨by omega, ?_⟩
      refine WP.drawF [(0, 0, 1, [5]), (0, 0, 0, [8]), (0, 0, 0, [6]), (6, 0, 1, [26, 27]), (15, 1, 2, [25, 28]), (31, 1, 2, [29]), (15, 1, 2, [25, 28]), (79, 2, 2, [31]), (255, 2, 3, [25, 32, 30])] D_mixed (by decide +kernel) ?_
      simp -implicitDefEqProofs only [s_s, argEnv, PastOK, PendOK, sel, isE, isSp, baseOK, opR, opnd, opnds, opndL, ofConst, look, putE, dstOK, guardL, binR, intOp, loadR, bad, bound, lenV, srcV, Ob.read, V.plain, V.one, V.cells, fillV, setMany, zeros, TK.agg, Sub, cellRes, loadV, bindE, Nat.reduceAdd, Nat.reduceEqDiff, Nat.reduceLT, Nat.reduceLeDiff, Nat.reduceMul, Nat.reduceSub, Nat.reduceDiv, Nat.reduceMod, Nat.reduceBEq, Nat.reduceBNe, reduceIte, reduceCtorEq, Int.reduceToNat, Int.reduceLT, Int.reduceLE, Int.reduceAdd, Int.reduceSub, Int.reduceMul, Int.reduceNeg, Int.reduceEq, Int.reduceNe, D_G, D_P, List.lookup, tys, intsV_len]
      refine SpD.call rfl rfl (of_spec r s (by omega) hrm.2 hs256 _) ?_
      have hLk : ∀ q ∈ combs R ((setsL k t).take i) ++ (R.take j).map (fun r => comb r s), okKey Tryd.prog 77 q := combs_ok hk hc hs256
      have hLn : (combs R ((setsL k t).take i) ++ (R.take j).map (fun r => comb r s)).length ≤ 100000 := combs_bound hk hRn
      have hstep : (R.take (j + 1)).map (fun r => comb r s) = (R.take j).map (fun r => comb r s) ++ [comb r s] := by rw [List.take_add_one, hr]; simp
      obtain ⟨L, hL⟩ : ∃ L, L = combs R ((setsL k t).take i) ++ (R.take j).map (fun r => comb r s) := ⟨_, rfl⟩
      rw [← hL] at hLk hLn ⊢
      have hck := comb_ok r s hrm.2 hs256
      have hkk := tally_keys hLk
      have ht := times_le L (comb r s)
      have w3 := wrapI (n := (times L (comb r s) : Int) + 1) (by omega) (by omega)
      have hb : bump (tally L) (comb r s) = putK (tally L) (comb r s) (.int .i64 (times L (comb r s) + 1)) := by simp [bump, tally_getD]
      have hkk2 : keysOK Tryd.prog 77 (putK (tally L) (comb r s) (.int .i64 (times L (comb r s)))) := by
        intro p hp
        rcases mem_putK hp with hp | rfl
        · exact hkk p hp
        · exact hck
      simp -implicitDefEqProofs only [s_s, argEnv, PastOK, PendOK, sel, isE, isSp, baseOK, opR, opnd, opnds, opndL, ofConst, look, putE, dstOK, guardL, binR, intOp, loadR, bad, bound, lenV, srcV, Ob.read, V.plain, V.one, V.cells, fillV, setMany, zeros, TK.agg, Sub, cellRes, loadV, bindE, Nat.reduceAdd, Nat.reduceEqDiff, Nat.reduceLT, Nat.reduceLeDiff, Nat.reduceMul, Nat.reduceSub, Nat.reduceDiv, Nat.reduceMod, Nat.reduceBEq, Nat.reduceBNe, reduceIte, reduceCtorEq, Int.reduceToNat, Int.reduceLT, Int.reduceLE, Int.reduceAdd, Int.reduceSub, Int.reduceMul, Int.reduceNeg, Int.reduceEq, Int.reduceNe, D_G, D_P, List.lookup, tys, intsV_len, keyV_comb, tally_getD, w3, entK, hkk, hck, hkk2, lookK_putK, get_putK, set_putK]
      refine ⟨⟨by omega, idx_putK _ _ _⟩, Kl.next (j + 1) (by omega) (by omega) ?_ ?_⟩
      · simp -implicitDefEqProofs only [s_s, argEnv, PastOK, PendOK, sel, isE, isSp, baseOK, opR, opnd, opnds, opndL, ofConst, look, putE, dstOK, guardL, binR, intOp, loadR, bad, bound, lenV, srcV, Ob.read, V.plain, V.one, V.cells, fillV, setMany, zeros, TK.agg, Sub, cellRes, loadV, bindE, Nat.reduceAdd, Nat.reduceEqDiff, Nat.reduceLT, Nat.reduceLeDiff, Nat.reduceMul, Nat.reduceSub, Nat.reduceDiv, Nat.reduceMod, Nat.reduceBEq, Nat.reduceBNe, reduceIte, reduceCtorEq, Int.reduceToNat, Int.reduceLT, Int.reduceLE, Int.reduceAdd, Int.reduceSub, Int.reduceMul, Int.reduceNeg, Int.reduceEq, Int.reduceNe, D_G, D_P, List.lookup, tys, intsV_len, w2, Int.natCast_add, Int.natCast_one]
      · rw [hstep, ← List.append_assoc, tally_snoc, ← hL, hb]
    · have : j = R.length := by have : ¬ j < R.length := by simpa using h
                                omega
      subst this
      simp -implicitDefEqProofs only [s_s, argEnv, PastOK, PendOK, sel, isE, isSp, baseOK, opR, opnd, opnds, opndL, ofConst, look, putE, dstOK, guardL, binR, intOp, loadR, bad, bound, lenV, srcV, Ob.read, V.plain, V.one, V.cells, fillV, setMany, zeros, TK.agg, Sub, cellRes, loadV, bindE, Nat.reduceAdd, Nat.reduceEqDiff, Nat.reduceLT, Nat.reduceLeDiff, Nat.reduceMul, Nat.reduceSub, Nat.reduceDiv, Nat.reduceMod, Nat.reduceBEq, Nat.reduceBNe, reduceIte, reduceCtorEq, Int.reduceToNat, Int.reduceLT, Int.reduceLE, Int.reduceAdd, Int.reduceSub, Int.reduceMul, Int.reduceNeg, Int.reduceEq, Int.reduceNe, D_G, D_P, List.lookup, tys, intsV_len]
      refine ⟨rfl, ?_⟩
      rw [combs_step hs]
      simp
  · simp -implicitDefEqProofs only [s_s, argEnv, PastOK, PendOK, sel, isE, isSp, baseOK, opR, opnd, opnds, opndL, ofConst, look, putE, dstOK, guardL, binR, intOp, loadR, bad, bound, lenV, srcV, Ob.read, V.plain, V.one, V.cells, fillV, setMany, zeros, TK.agg, Sub, cellRes, loadV, bindE, Nat.reduceAdd, Nat.reduceEqDiff, Nat.reduceLT, Nat.reduceLeDiff, Nat.reduceMul, Nat.reduceSub, Nat.reduceDiv, Nat.reduceMod, Nat.reduceBEq, Nat.reduceBNe, reduceIte, reduceCtorEq, Int.reduceToNat, Int.reduceLT, Int.reduceLE, Int.reduceAdd, Int.reduceSub, Int.reduceMul, Int.reduceNeg, Int.reduceEq, Int.reduceNe, D_G, D_P, List.lookup, tys, intsV_len]
    refine Post.r1 rfl (OwnK.map _ 1 ?_ (tally_bdd _ _) hK)
    simp
end Go.VL
end

/- The array seat: powers, binomials, index, missing, strength. -/
section
set_option linter.unusedSimpArgs false
set_option maxRecDepth 4000
namespace Go.VL
open Go Go.Proofs

theorem pow_mono {s : Nat} (hs : 1 ≤ s) {i t : Nat} (h : i ≤ t) : s ^ i ≤ s ^ t := Nat.pow_le_pow_right hs h

theorem power_spec (s t : Nat) (hs : 1 ≤ s) (hb : s ^ t ≤ 1000000000) (ht : t ≤ 1000) (st : St) : VCall D 34 [.int .i64 s, .int .i64 t] st (fun r st' => r = .int .i64 (s ^ t : Nat) ∧ st' = st) := by
  refine VCall.of_WP (fn := Tryd.f34) (c := _) Tryd.func34 rfl (by decide +kernel) (Nat.le_of_ble_eq_true rfl) ?_
  refine wpF_sound ?_
  simp -implicitDefEqProofs only [s_s, argEnv, PastOK, PendOK, sel, isE, isSp, baseOK, opR, opnd, opnds, opndL, ofConst, look, putE, dstOK, guardL, binR, intOp, loadR, bad, bound, lenV, srcV, Ob.read, V.plain, V.one, V.cells, fillV, setMany, zeros, TK.agg, Sub, cellRes, loadV, bindE, Nat.reduceAdd, Nat.reduceEqDiff, Nat.reduceLT, Nat.reduceLeDiff, Nat.reduceMul, Nat.reduceSub, Nat.reduceDiv, Nat.reduceMod, Nat.reduceBEq, Nat.reduceBNe, reduceIte, reduceCtorEq, Int.reduceToNat, Int.reduceLT, Int.reduceLE, Int.reduceAdd, Int.reduceSub, Int.reduceMul, Int.reduceNeg, Int.reduceEq, Int.reduceNe, D_G, D_P, List.lookup, tys, intsV_len, Tryd.ntmps34, Tryd.f34]
  refine WP.loopF (ι := Nat) (fun i => [(0, .int .i64 s), (5, .int .i64 (s ^ i : Nat)), (6, .int .i64 t), (7, .int .i64 i)]) (fun _ => st) (fun i => i ≤ t) (fun i => t - i) 0 (by omega) (by simp -implicitDefEqProofs only [s_s, argEnv, PastOK, PendOK, sel, isE, isSp, baseOK, opR, opnd, opnds, opndL, ofConst, look, putE, dstOK, guardL, binR, intOp, loadR, bad, bound, lenV, srcV, Ob.read, V.plain, V.one, V.cells, fillV, setMany, zeros, TK.agg, Sub, cellRes, loadV, bindE, Nat.reduceAdd, Nat.reduceEqDiff, Nat.reduceLT, Nat.reduceLeDiff, Nat.reduceMul, Nat.reduceSub, Nat.reduceDiv, Nat.reduceMod, Nat.reduceBEq, Nat.reduceBNe, reduceIte, reduceCtorEq, Int.reduceToNat, Int.reduceLT, Int.reduceLE, Int.reduceAdd, Int.reduceSub, Int.reduceMul, Int.reduceNeg, Int.reduceEq, Int.reduceNe, D_G, D_P, List.lookup, tys, intsV_len]; simp) rfl ?_
  intro i hi
  simp -implicitDefEqProofs only [s_s, argEnv, PastOK, PendOK, sel, isE, isSp, baseOK, opR, opnd, opnds, opndL, ofConst, look, putE, dstOK, guardL, binR, intOp, loadR, bad, bound, lenV, srcV, Ob.read, V.plain, V.one, V.cells, fillV, setMany, zeros, TK.agg, Sub, cellRes, loadV, bindE, Nat.reduceAdd, Nat.reduceEqDiff, Nat.reduceLT, Nat.reduceLeDiff, Nat.reduceMul, Nat.reduceSub, Nat.reduceDiv, Nat.reduceMod, Nat.reduceBEq, Nat.reduceBNe, reduceIte, reduceCtorEq, Int.reduceToNat, Int.reduceLT, Int.reduceLE, Int.reduceAdd, Int.reduceSub, Int.reduceMul, Int.reduceNeg, Int.reduceEq, Int.reduceNe, D_G, D_P, List.lookup, tys, intsV_len]
  refine Br.intro (fun h => ?_) (fun h => ?_)
  · have h' : i < t := by simpa using h
    have p1 := pow_mono hs (show i + 1 ≤ t from h')
    have e : ((s ^ i : Nat) : Int) * s = (s ^ (i + 1) : Nat) := by rw [Nat.pow_succ]; simp
    have w1 := wrapI (n := ((s ^ i : Nat) : Int) * s) (by rw [e]; omega) (by rw [e]; omega)
    have w2 := wrapI (n := (i : Int) + 1) (by omega) (by omega)
    simp -implicitDefEqProofs only [s_s, argEnv, PastOK, PendOK, sel, isE, isSp, baseOK, opR, opnd, opnds, opndL, ofConst, look, putE, dstOK, guardL, binR, intOp, loadR, bad, bound, lenV, srcV, Ob.read, V.plain, V.one, V.cells, fillV, setMany, zeros, TK.agg, Sub, cellRes, loadV, bindE, Nat.reduceAdd, Nat.reduceEqDiff, Nat.reduceLT, Nat.reduceLeDiff, Nat.reduceMul, Nat.reduceSub, Nat.reduceDiv, Nat.reduceMod, Nat.reduceBEq, Nat.reduceBNe, reduceIte, reduceCtorEq, Int.reduceToNat, Int.reduceLT, Int.reduceLE, Int.reduceAdd, Int.reduceSub, Int.reduceMul, Int.reduceNeg, Int.reduceEq, Int.reduceNe, D_G, D_P, List.lookup, tys, intsV_len, w1, w2]
    refine Kl.next (i + 1) (by omega) (by omega) ?_ rfl
    simp -implicitDefEqProofs only [s_s, argEnv, PastOK, PendOK, sel, isE, isSp, baseOK, opR, opnd, opnds, opndL, ofConst, look, putE, dstOK, guardL, binR, intOp, loadR, bad, bound, lenV, srcV, Ob.read, V.plain, V.one, V.cells, fillV, setMany, zeros, TK.agg, Sub, cellRes, loadV, bindE, Nat.reduceAdd, Nat.reduceEqDiff, Nat.reduceLT, Nat.reduceLeDiff, Nat.reduceMul, Nat.reduceSub, Nat.reduceDiv, Nat.reduceMod, Nat.reduceBEq, Nat.reduceBNe, reduceIte, reduceCtorEq, Int.reduceToNat, Int.reduceLT, Int.reduceLE, Int.reduceAdd, Int.reduceSub, Int.reduceMul, Int.reduceNeg, Int.reduceEq, Int.reduceNe, D_G, D_P, List.lookup, tys, intsV_len, e, Int.natCast_add, Int.natCast_one]
  · have : i = t := by have : ¬ i < t := by simpa using h
                       omega
    subst this
    simp -implicitDefEqProofs only [s_s, argEnv, PastOK, PendOK, sel, isE, isSp, baseOK, opR, opnd, opnds, opndL, ofConst, look, putE, dstOK, guardL, binR, intOp, loadR, bad, bound, lenV, srcV, Ob.read, V.plain, V.one, V.cells, fillV, setMany, zeros, TK.agg, Sub, cellRes, loadV, bindE, Nat.reduceAdd, Nat.reduceEqDiff, Nat.reduceLT, Nat.reduceLeDiff, Nat.reduceMul, Nat.reduceSub, Nat.reduceDiv, Nat.reduceMod, Nat.reduceBEq, Nat.reduceBNe, reduceIte, reduceCtorEq, Int.reduceToNat, Int.reduceLT, Int.reduceLE, Int.reduceAdd, Int.reduceSub, Int.reduceMul, Int.reduceNeg, Int.reduceEq, Int.reduceNe, D_G, D_P, List.lookup, tys, intsV_len]
    exact Post.r1 rfl ⟨rfl, rfl⟩

def binom : Nat → Nat → Nat
  | _, 0 => 1
  | 0, _ + 1 => 0
  | n + 1, k + 1 => binom n k + binom n (k + 1)

theorem binom_step : ∀ n, n < 10 → ∀ i, i < n → (binom n i : Int) * ((n : Int) - i) = (binom n i * (n - i) : Nat) ∧ ((binom n i * (n - i) : Nat) : Int).tdiv ((i : Int) + 1) = binom n (i + 1) ∧ binom n i * (n - i) < 10000 ∧ binom n i < 1000 ∧ binom n (i + 1) < 1000 := by decide +kernel

theorem choose_spec (n k : Nat) (hn : n < 10) (hk : k ≤ n) (st : St) : VCall D 33 [.int .i64 n, .int .i64 k] st (fun r st' => r = .int .i64 (binom n k) ∧ st' = st) := by
  refine VCall.of_WP (fn := Tryd.f33) (c := _) Tryd.func33 rfl (by decide +kernel) (Nat.le_of_ble_eq_true rfl) ?_
  refine wpF_sound ?_
  simp -implicitDefEqProofs only [s_s, argEnv, PastOK, PendOK, sel, isE, isSp, baseOK, opR, opnd, opnds, opndL, ofConst, look, putE, dstOK, guardL, binR, intOp, loadR, bad, bound, lenV, srcV, Ob.read, V.plain, V.one, V.cells, fillV, setMany, zeros, TK.agg, Sub, cellRes, loadV, bindE, Nat.reduceAdd, Nat.reduceEqDiff, Nat.reduceLT, Nat.reduceLeDiff, Nat.reduceMul, Nat.reduceSub, Nat.reduceDiv, Nat.reduceMod, Nat.reduceBEq, Nat.reduceBNe, reduceIte, reduceCtorEq, Int.reduceToNat, Int.reduceLT, Int.reduceLE, Int.reduceAdd, Int.reduceSub, Int.reduceMul, Int.reduceNeg, Int.reduceEq, Int.reduceNe, D_G, D_P, List.lookup, tys, intsV_len, Tryd.ntmps33, Tryd.f33]
  refine WP.loopF (ι := Nat) (fun i => [(0, .int .i64 n), (5, .int .i64 (binom n i)), (7, .int .i64 k), (8, .int .i64 i)]) (fun _ => st) (fun i => i ≤ k) (fun i => k - i) 0 (by omega) (by simp -implicitDefEqProofs only [s_s, argEnv, PastOK, PendOK, sel, isE, isSp, baseOK, opR, opnd, opnds, opndL, ofConst, look, putE, dstOK, guardL, binR, intOp, loadR, bad, bound, lenV, srcV, Ob.read, V.plain, V.one, V.cells, fillV, setMany, zeros, TK.agg, Sub, cellRes, loadV, bindE, Nat.reduceAdd, Nat.reduceEqDiff, Nat.reduceLT, Nat.reduceLeDiff, Nat.reduceMul, Nat.reduceSub, Nat.reduceDiv, Nat.reduceMod, Nat.reduceBEq, Nat.reduceBNe, reduceIte, reduceCtorEq, Int.reduceToNat, Int.reduceLT, Int.reduceLE, Int.reduceAdd, Int.reduceSub, Int.reduceMul, Int.reduceNeg, Int.reduceEq, Int.reduceNe, D_G, D_P, List.lookup, tys, intsV_len]; simp [binom]) rfl ?_
  intro i hi
  simp -implicitDefEqProofs only [s_s, argEnv, PastOK, PendOK, sel, isE, isSp, baseOK, opR, opnd, opnds, opndL, ofConst, look, putE, dstOK, guardL, binR, intOp, loadR, bad, bound, lenV, srcV, Ob.read, V.plain, V.one, V.cells, fillV, setMany, zeros, TK.agg, Sub, cellRes, loadV, bindE, Nat.reduceAdd, Nat.reduceEqDiff, Nat.reduceLT, Nat.reduceLeDiff, Nat.reduceMul, Nat.reduceSub, Nat.reduceDiv, Nat.reduceMod, Nat.reduceBEq, Nat.reduceBNe, reduceIte, reduceCtorEq, Int.reduceToNat, Int.reduceLT, Int.reduceLE, Int.reduceAdd, Int.reduceSub, Int.reduceMul, Int.reduceNeg, Int.reduceEq, Int.reduceNe, D_G, D_P, List.lookup, tys, intsV_len]
  refine Br.intro (fun h => ?_) (fun h => ?_)
  · have h' : i < k := by simpa using h
    obtain ⟨b1, b2, b3, b4, b5⟩ := binom_step n hn i (by omega)
    have w2 := wrapI (n := (i : Int) + 1) (by omega) (by omega)
    have w3 := wrapI (n := (n : Int) - i) (by omega) (by omega)
    have w4 := wrapI (n := ((binom n i * (n - i) : Nat) : Int)) (by omega) (by omega)
    have w5 := wrapI (n := (binom n (i + 1) : Int)) (by omega) (by omega)
    simp -implicitDefEqProofs only [s_s, argEnv, PastOK, PendOK, sel, isE, isSp, baseOK, opR, opnd, opnds, opndL, ofConst, look, putE, dstOK, guardL, binR, intOp, loadR, bad, bound, lenV, srcV, Ob.read, V.plain, V.one, V.cells, fillV, setMany, zeros, TK.agg, Sub, cellRes, loadV, bindE, Nat.reduceAdd, Nat.reduceEqDiff, Nat.reduceLT, Nat.reduceLeDiff, Nat.reduceMul, Nat.reduceSub, Nat.reduceDiv, Nat.reduceMod, Nat.reduceBEq, Nat.reduceBNe, reduceIte, reduceCtorEq, Int.reduceToNat, Int.reduceLT, Int.reduceLE, Int.reduceAdd, Int.reduceSub, Int.reduceMul, Int.reduceNeg, Int.reduceEq, Int.reduceNe, D_G, D_P, List.lookup, tys, intsV_len, w2, w3, w4, b1, b2, w5]
    refine ⟨by omega, Kl.next (i + 1) (by omega) (by omega) ?_ rfl⟩
    simp -implicitDefEqProofs only [s_s, argEnv, PastOK, PendOK, sel, isE, isSp, baseOK, opR, opnd, opnds, opndL, ofConst, look, putE, dstOK, guardL, binR, intOp, loadR, bad, bound, lenV, srcV, Ob.read, V.plain, V.one, V.cells, fillV, setMany, zeros, TK.agg, Sub, cellRes, loadV, bindE, Nat.reduceAdd, Nat.reduceEqDiff, Nat.reduceLT, Nat.reduceLeDiff, Nat.reduceMul, Nat.reduceSub, Nat.reduceDiv, Nat.reduceMod, Nat.reduceBEq, Nat.reduceBNe, reduceIte, reduceCtorEq, Int.reduceToNat, Int.reduceLT, Int.reduceLE, Int.reduceAdd, Int.reduceSub, Int.reduceMul, Int.reduceNeg, Int.reduceEq, Int.reduceNe, D_G, D_P, List.lookup, tys, intsV_len, Int.natCast_add, Int.natCast_one]
  · have : i = k := by have : ¬ i < k := by simpa using h
                       omega
    subst this
    simp -implicitDefEqProofs only [s_s, argEnv, PastOK, PendOK, sel, isE, isSp, baseOK, opR, opnd, opnds, opndL, ofConst, look, putE, dstOK, guardL, binR, intOp, loadR, bad, bound, lenV, srcV, Ob.read, V.plain, V.one, V.cells, fillV, setMany, zeros, TK.agg, Sub, cellRes, loadV, bindE, Nat.reduceAdd, Nat.reduceEqDiff, Nat.reduceLT, Nat.reduceLeDiff, Nat.reduceMul, Nat.reduceSub, Nat.reduceDiv, Nat.reduceMod, Nat.reduceBEq, Nat.reduceBNe, reduceIte, reduceCtorEq, Int.reduceToNat, Int.reduceLT, Int.reduceLE, Int.reduceAdd, Int.reduceSub, Int.reduceMul, Int.reduceNeg, Int.reduceEq, Int.reduceNe, D_G, D_P, List.lookup, tys, intsV_len]
    exact Post.r1 rfl ⟨rfl, rfl⟩

theorem binom_lt (n k : Nat) (hn : n < 10) (hk : k ≤ n) : binom n k < 1000 := by
  have : ∀ n, n < 10 → ∀ k, k < n + 1 → binom n k < 1000 := by decide +kernel
  exact this n hn k (by omega)

theorem tally_len (l : List Key) : (tally l).length ≤ l.length := by
  have put : ∀ (es : List (Key × V)) (k : Key) (v : V), (putK es k v).length ≤ es.length + 1 := by
    intro es k v
    induction es with
    | nil => simp [putK]
    | cons p r ih =>
      obtain ⟨q, u⟩ := p
      simp only [putK]
      split
      · simp
      · simp; omega
  have : ∀ m, ∀ l : List Key, l.length = m → (tally l).length ≤ l.length := by
    intro m
    induction m with
    | zero => intro l hl; have : l = [] := List.length_eq_zero_iff.1 hl; subst this; simp [tally]
    | succ m ih =>
      intro l hl
      rcases List.eq_nil_or_concat l with rfl | ⟨l', a, rfl⟩
      · simp at hl
      · rw [List.concat_eq_append, tally_snoc, bump, tally_getD]
        have := put (tally l') a (V.int .i64 (times l' a + 1))
        have := ih l' (by simpa using hl)
        simp at *; omega
  exact this l.length l rfl

/-- A valid array of k columns. -/
structure ArrOK (S : Nat) (R : List (List Int)) (k : Nat) : Prop where
  s2 : 2 ≤ S
  s8 : S ≤ 8
  k1 : 1 ≤ k
  k8 : k ≤ 8
  r1 : 0 < R.length
  r64 : R.length ≤ 64
  row : ∀ r ∈ R, r.length = k ∧ ∀ x ∈ r, 0 ≤ x ∧ x < S

theorem ArrOK.cols {S : Nat} {R : List (List Int)} {k : Nat} (h : ArrOK S R k) : colsN R = k := by
  obtain ⟨r0, hr0⟩ : ∃ r0, R[0]? = some r0 := ⟨_, List.getElem?_eq_getElem h.r1⟩
  simp [colsN, hr0, (h.row r0 (List.mem_of_getElem? hr0)).1]

theorem ArrOK.row8 {S : Nat} {R : List (List Int)} {k : Nat} (h : ArrOK S R k) : ∀ r ∈ R, r.length = k ∧ ∀ x ∈ r, 0 ≤ x ∧ x < 8 := fun r hr => ⟨(h.row r hr).1, fun x hx => by have := (h.row r hr).2 x hx; have := h.s8; omega⟩

theorem pow_bound {S t : Nat} (h2 : 2 ≤ S) (h8 : S ≤ 8) (ht : t ≤ 8) : 0 < S ^ t ∧ S ^ t ≤ 16777216 := by
  refine ⟨Nat.pow_pos (by omega), ?_⟩
  have h1 : S ^ t ≤ 8 ^ t := Nat.pow_le_pow_left h8 t
  have h2 : 8 ^ t ≤ 8 ^ 8 := Nat.pow_le_pow_right (by omega) ht
  omega

/-- What 'Missing' returns for a strength that is possible. -/
def missN (S : Nat) (R : List (List Int)) (k t : Nat) : Int := (binom k t : Int) * (S ^ t : Nat) - (tally (combs R (setsL k t))).length

theorem Missing_spec (S : Nat) (R : List (List Int)) (k : Nat) (h : ArrOK S R k) (t : Int) (st : St) :
    VCall D 14 [arrV S R, .int .i64 t] st (fun r st' => r = .int .i64 (if 1 ≤ t ∧ t ≤ k then missN S R k t.toNat else 0) ∧ st' = st) := by
  obtain ⟨r0, hr0⟩ : ∃ r0, R[0]? = some r0 := ⟨_, List.getElem?_eq_getElem h.r1⟩
  have hk0 : r0.length = k := (h.row r0 (List.mem_of_getElem? hr0)).1
  have hv0 : (R.map rowV)[0]? = some (rowV r0) := by simp [hr0]
  refine VCall.clean ?_
  refine VCall.of_WP (fn := Tryd.f14) (c := _) Tryd.func14 rfl (by decide +kernel) (Nat.le_of_ble_eq_true rfl) ?_
  refine wpF_sound ?_
  simp -implicitDefEqProofs only [s_s, argEnv, PastOK, PendOK, sel, isE, isSp, baseOK, opR, opnd, opnds, opndL, ofConst, look, putE, dstOK, guardL, binR, intOp, loadR, bad, bound, lenV, srcV, Ob.read, V.plain, V.one, V.cells, fillV, setMany, zeros, TK.agg, Sub, cellRes, loadV, bindE, Nat.reduceAdd, Nat.reduceEqDiff, Nat.reduceLT, Nat.reduceLeDiff, Nat.reduceMul, Nat.reduceSub, Nat.reduceDiv, Nat.reduceMod, Nat.reduceBEq, Nat.reduceBNe, reduceIte, reduceCtorEq, Int.reduceToNat, Int.reduceLT, Int.reduceLE, Int.reduceAdd, Int.reduceSub, Int.reduceMul, Int.reduceNeg, Int.reduceEq, Int.reduceNe, D_G, D_P, List.lookup, tys, intsV_len, Tryd.ntmps14, Tryd.f14, arrV]
  refine Sp.call rfl rfl ?_
  refine (possible_spec S R t _ h.r1).mono ?_
  rintro r st' ⟨rfl, rfl⟩
  rw [h.cols]
  simp -implicitDefEqProofs only [s_s, argEnv, PastOK, PendOK, sel, isE, isSp, baseOK, opR, opnd, opnds, opndL, ofConst, look, putE, dstOK, guardL, binR, intOp, loadR, bad, bound, lenV, srcV, Ob.read, V.plain, V.one, V.cells, fillV, setMany, zeros, TK.agg, Sub, cellRes, loadV, bindE, Nat.reduceAdd, Nat.reduceEqDiff, Nat.reduceLT, Nat.reduceLeDiff, Nat.reduceMul, Nat.reduceSub, Nat.reduceDiv, Nat.reduceMod, Nat.reduceBEq, Nat.reduceBNe, reduceIte, reduceCtorEq, Int.reduceToNat, Int.reduceLT, Int.reduceLE, Int.reduceAdd, Int.reduceSub, Int.reduceMul, Int.reduceNeg, Int.reduceEq, Int.reduceNe, D_G, D_P, List.lookup, tys, intsV_len]
  refine Br.intro (fun hb => ?_) (fun hb => ?_)
  · have h' : ¬ (1 ≤ t ∧ t ≤ k) := by simp at hb; omega
    simp -implicitDefEqProofs only [s_s, argEnv, PastOK, PendOK, sel, isE, isSp, baseOK, opR, opnd, opnds, opndL, ofConst, look, putE, dstOK, guardL, binR, intOp, loadR, bad, bound, lenV, srcV, Ob.read, V.plain, V.one, V.cells, fillV, setMany, zeros, TK.agg, Sub, cellRes, loadV, bindE, Nat.reduceAdd, Nat.reduceEqDiff, Nat.reduceLT, Nat.reduceLeDiff, Nat.reduceMul, Nat.reduceSub, Nat.reduceDiv, Nat.reduceMod, Nat.reduceBEq, Nat.reduceBNe, reduceIte, reduceCtorEq, Int.reduceToNat, Int.reduceLT, Int.reduceLE, Int.reduceAdd, Int.reduceSub, Int.reduceMul, Int.reduceNeg, Int.reduceEq, Int.reduceNe, D_G, D_P, List.lookup, tys, intsV_len]
    exact Post.r1 rfl ⟨_, _, rfl, .keep rfl, by rw [if_neg h']⟩
  · have h' : 1 ≤ t ∧ t ≤ k := by simpa using hb
    obtain ⟨n, rfl⟩ := Int.eq_ofNat_of_zero_le (show 0 ≤ t by omega)
    have hn : n ≤ k := by omega
    have := h.k8
    obtain ⟨p1, p2⟩ := pow_bound h.s2 h.s8 (show n ≤ 8 by omega)
    simp -implicitDefEqProofs only [s_s, argEnv, PastOK, PendOK, sel, isE, isSp, baseOK, opR, opnd, opnds, opndL, ofConst, look, putE, dstOK, guardL, binR, intOp, loadR, bad, bound, lenV, srcV, Ob.read, V.plain, V.one, V.cells, fillV, setMany, zeros, TK.agg, Sub, cellRes, loadV, bindE, Nat.reduceAdd, Nat.reduceEqDiff, Nat.reduceLT, Nat.reduceLeDiff, Nat.reduceMul, Nat.reduceSub, Nat.reduceDiv, Nat.reduceMod, Nat.reduceBEq, Nat.reduceBNe, reduceIte, reduceCtorEq, Int.reduceToNat, Int.reduceLT, Int.reduceLE, Int.reduceAdd, Int.reduceSub, Int.reduceMul, Int.reduceNeg, Int.reduceEq, Int.reduceNe, D_G, D_P, List.lookup, tys, intsV_len]
    refine WP.drawF [(0, 0, 0, [2]), (1, 0, 0, [9]), (3, 0, 0, [10]), (7, 0, 0, [11]), (15, 0, 0, [12]), (0, 0, 0, [1]), (63, 0, 1, [13, 14]), (0, 0, 1, [2]), (128, 0, 1, [16]), (0, 0, 1, [1]), (1023, 1, 2, [17, 18]), (2047, 2, 3, [15, 19]), (0, 0, 2, [2]), (0, 0, 2, [1]), (14335, 2, 3, [21, 22]), (30719, 3, 3, [23]), (65535, 3, 3, [20, 24]), (131071, 3, 3, [25])] D_mixed (by decide +kernel) ?_
    simp -implicitDefEqProofs only [s_s, argEnv, PastOK, PendOK, sel, isE, isSp, baseOK, opR, opnd, opnds, opndL, ofConst, look, putE, dstOK, guardL, binR, intOp, loadR, bad, bound, lenV, srcV, Ob.read, V.plain, V.one, V.cells, fillV, setMany, zeros, TK.agg, Sub, cellRes, loadV, bindE, Nat.reduceAdd, Nat.reduceEqDiff, Nat.reduceLT, Nat.reduceLeDiff, Nat.reduceMul, Nat.reduceSub, Nat.reduceDiv, Nat.reduceMod, Nat.reduceBEq, Nat.reduceBNe, reduceIte, reduceCtorEq, Int.reduceToNat, Int.reduceLT, Int.reduceLE, Int.reduceAdd, Int.reduceSub, Int.reduceMul, Int.reduceNeg, Int.reduceEq, Int.reduceNe, D_G, D_P, List.lookup, tys, intsV_len, hv0, rowV, hk0]
    refine ⟨by have := h.r1; omega, SpD.call rfl rfl (choose_spec k n (by omega) hn _) ?_⟩
    simp -implicitDefEqProofs only [s_s, argEnv, PastOK, PendOK, sel, isE, isSp, baseOK, opR, opnd, opnds, opndL, ofConst, look, putE, dstOK, guardL, binR, intOp, loadR, bad, bound, lenV, srcV, Ob.read, V.plain, V.one, V.cells, fillV, setMany, zeros, TK.agg, Sub, cellRes, loadV, bindE, Nat.reduceAdd, Nat.reduceEqDiff, Nat.reduceLT, Nat.reduceLeDiff, Nat.reduceMul, Nat.reduceSub, Nat.reduceDiv, Nat.reduceMod, Nat.reduceBEq, Nat.reduceBNe, reduceIte, reduceCtorEq, Int.reduceToNat, Int.reduceLT, Int.reduceLE, Int.reduceAdd, Int.reduceSub, Int.reduceMul, Int.reduceNeg, Int.reduceEq, Int.reduceNe, D_G, D_P, List.lookup, tys, intsV_len]
    refine SpD.call rfl rfl (power_spec S n (by have := h.s2; omega) (by omega) (by omega) _) ?_
    have bb := (binom_lt k n (by omega) hn)
    have bm : binom k n * S ^ n ≤ 1000 * 16777216 := Nat.mul_le_mul (by omega) p2
    have w1 := wrapI (n := (binom k n : Int) * ((S ^ n : Nat) : Int)) (by rw [← Int.natCast_mul]; omega) (by rw [← Int.natCast_mul]; omega)
    simp -implicitDefEqProofs only [s_s, argEnv, PastOK, PendOK, sel, isE, isSp, baseOK, opR, opnd, opnds, opndL, ofConst, look, putE, dstOK, guardL, binR, intOp, loadR, bad, bound, lenV, srcV, Ob.read, V.plain, V.one, V.cells, fillV, setMany, zeros, TK.agg, Sub, cellRes, loadV, bindE, Nat.reduceAdd, Nat.reduceEqDiff, Nat.reduceLT, Nat.reduceLeDiff, Nat.reduceMul, Nat.reduceSub, Nat.reduceDiv, Nat.reduceMod, Nat.reduceBEq, Nat.reduceBNe, reduceIte, reduceCtorEq, Int.reduceToNat, Int.reduceLT, Int.reduceLE, Int.reduceAdd, Int.reduceSub, Int.reduceMul, Int.reduceNeg, Int.reduceEq, Int.reduceNe, D_G, D_P, List.lookup, tys, intsV_len, w1]
    refine SpD.call rfl rfl (occurring_spec S R k n h.k8 h.r1 h.r64 h.row8 _ ⟨rfl, rfl⟩) ?_
    have tl := tally_len (combs R (setsL k n))
    have cl := combs_len R (setsL k n)
    have sl := setsL_len (t := n) h.k8
    have cl2 : (setsL k n).length * R.length ≤ 256 * 64 := Nat.mul_le_mul sl h.r64
    have w2 := wrapI (n := (binom k n : Int) * ((S ^ n : Nat) : Int) - (tally (combs R (setsL k n))).length) (by rw [← Int.natCast_mul]; omega) (by rw [← Int.natCast_mul]; omega)
    simp -implicitDefEqProofs only [s_s, argEnv, PastOK, PendOK, sel, isE, isSp, baseOK, opR, opnd, opnds, opndL, ofConst, look, putE, dstOK, guardL, binR, intOp, loadR, bad, bound, lenV, srcV, Ob.read, V.plain, V.one, V.cells, fillV, setMany, zeros, TK.agg, Sub, cellRes, loadV, bindE, Nat.reduceAdd, Nat.reduceEqDiff, Nat.reduceLT, Nat.reduceLeDiff, Nat.reduceMul, Nat.reduceSub, Nat.reduceDiv, Nat.reduceMod, Nat.reduceBEq, Nat.reduceBNe, reduceIte, reduceCtorEq, Int.reduceToNat, Int.reduceLT, Int.reduceLE, Int.reduceAdd, Int.reduceSub, Int.reduceMul, Int.reduceNeg, Int.reduceEq, Int.reduceNe, D_G, D_P, List.lookup, tys, intsV_len, w1, w2]
    exact Post.r1 rfl ⟨_, _, rfl, .keep rfl, by rw [if_pos h']; rfl⟩
/-- The keys of a tally: those that occur, each once. -/
theorem tally_nodup (l : List Key) : ((tally l).map Prod.fst).Nodup := by
  have put : ∀ (es : List (Key × V)) (k : Key) (v : V), (es.map Prod.fst).Nodup → ((putK es k v).map Prod.fst).Nodup ∧ ∀ q, q ∈ (putK es k v).map Prod.fst → q ∈ es.map Prod.fst ∨ q = k := by
    intro es k v
    induction es with
    | nil => intro _; simp [putK]
    | cons p r ih =>
      obtain ⟨q, u⟩ := p
      intro h
      simp only [List.map_cons, List.nodup_cons] at h
      simp only [putK]
      split
      · rename_i e; subst e
        refine ⟨by simp [h.1, h.2], fun x hx => ?_⟩
        rcases List.mem_cons.1 hx with h3 | h3
        · exact .inr h3
        · exact .inl (List.mem_cons_of_mem _ h3)
      · rename_i e
        obtain ⟨h1, h2⟩ := ih h.2
        simp only [List.map_cons, List.nodup_cons, List.mem_cons]
        refine ⟨⟨fun hq => ?_, h1⟩, fun x hx => ?_⟩
        · rcases h2 q hq with h3 | h3
          · exact h.1 h3
          · exact e h3
        · rcases hx with hx | hx
          · exact .inl (.inl hx)
          · rcases h2 x hx with h3 | h3
            · exact .inl (.inr h3)
            · exact .inr h3
  have : ∀ m, ∀ l : List Key, l.length = m → ((tally l).map Prod.fst).Nodup := by
    intro m
    induction m with
    | zero => intro l hl; have : l = [] := List.length_eq_zero_iff.1 hl; subst this; simp [tally]
    | succ m ih =>
      intro l hl
      rcases List.eq_nil_or_concat l with rfl | ⟨l', a, rfl⟩
      · simp at hl
      · rw [List.concat_eq_append, tally_snoc, bump, tally_getD]
        exact (put _ _ _ (ih l' (by simpa using hl))).1
  exact this l.length l rfl

theorem tally_get {l : List Key} {i : Nat} {k : Key} {v : V} (h : (tally l)[i]? = some (k, v)) : v = .int .i64 (times l k) ∧ 0 < times l k := by
  have h1 := (lookK_at (tally_nodup l) h).1
  rw [tally_look] at h1
  split at h1
  · cases h1
  · cases h1; exact ⟨rfl, by omega⟩

theorem times_pos {l : List Key} {k : Key} : 0 < times l k ↔ k ∈ l := by
  simp [times, List.countP_pos_iff]

theorem tally_has {l : List Key} {k : Key} (h : k ∈ l) : ∃ i : Nat, (tally l)[i]? = some (k, V.int .i64 (times l k)) := by
  have hp := times_pos.2 h
  have h1 : lookK (tally l) k = some (.int .i64 (times l k)) := by rw [tally_look, if_neg (by omega)]
  obtain ⟨i, hi⟩ := List.getElem?_of_mem (lookK_mem h1)
  exact ⟨i, hi⟩

/-- Different numbers below n: at most n. -/
theorem nodup_len : ∀ {n : Nat} {l : List Nat}, l.Nodup → (∀ i ∈ l, i < n) → l.length ≤ n
  | 0, l, _, hl => by
    cases l with
    | nil => simp
    | cons a l => have := hl a (by simp); omega
  | n + 1, l, hn, hl => by
    have h1 := nodup_len (n := n) (hn.erase n) (fun i hi => by
      have h1 := (List.Nodup.mem_erase_iff hn).1 hi
      have := hl i h1.2
      have := h1.1
      omega)
    have h2 : l.length - 1 ≤ (l.erase n).length := by rw [List.length_erase]; split <;> omega
    omega

/-- What 'index' returns. -/
def indexN (S : Nat) (R : List (List Int)) (k t : Nat) : Nat :=
  if R.length % S ^ t = 0 ∧ ∀ q ∈ combs R (setsL k t), times (combs R (setsL k t)) q * S ^ t = R.length then R.length / S ^ t else 0

theorem index_spec (S : Nat) (R : List (List Int)) (k : Nat) (h : ArrOK S R k) (t : Nat) (ht : t ≤ k) (st : St) :
    VCall D 31 [arrV S R, .int .i64 t] st (fun r st' => r = .int .i64 (indexN S R k t) ∧ st' = st) := by
  have hk8 := h.k8
  obtain ⟨p1, p2⟩ := pow_bound h.s2 h.s8 (show t ≤ 8 by omega)
  have hr64 := h.r64
  refine VCall.clean ?_
  refine VCall.of_WP (fn := Tryd.f31) (c := _) Tryd.func31 rfl (by decide +kernel) (Nat.le_of_ble_eq_true rfl) ?_
  refine wpF_sound ?_
  simp -implicitDefEqProofs only [s_s, argEnv, PastOK, PendOK, sel, isE, isSp, baseOK, opR, opnd, opnds, opndL, ofConst, look, putE, dstOK, guardL, binR, intOp, loadR, bad, bound, lenV, srcV, Ob.read, V.plain, V.one, V.cells, fillV, setMany, zeros, TK.agg, Sub, cellRes, loadV, bindE, Nat.reduceAdd, Nat.reduceEqDiff, Nat.reduceLT, Nat.reduceLeDiff, Nat.reduceMul, Nat.reduceSub, Nat.reduceDiv, Nat.reduceMod, Nat.reduceBEq, Nat.reduceBNe, reduceIte, reduceCtorEq, Int.reduceToNat, Int.reduceLT, Int.reduceLE, Int.reduceAdd, Int.reduceSub, Int.reduceMul, Int.reduceNeg, Int.reduceEq, Int.reduceNe, D_G, D_P, List.lookup, tys, intsV_len, Tryd.ntmps31, Tryd.f31, arrV]
  refine Sp.call rfl rfl ?_
  refine (power_spec S t (by have := h.s2; omega) (by omega) (by omega) _).mono ?_
  rintro r st' ⟨rfl, rfl⟩
  simp -implicitDefEqProofs only [s_s, argEnv, PastOK, PendOK, sel, isE, isSp, baseOK, opR, opnd, opnds, opndL, ofConst, look, putE, dstOK, guardL, binR, intOp, loadR, bad, bound, lenV, srcV, Ob.read, V.plain, V.one, V.cells, fillV, setMany, zeros, TK.agg, Sub, cellRes, loadV, bindE, Nat.reduceAdd, Nat.reduceEqDiff, Nat.reduceLT, Nat.reduceLeDiff, Nat.reduceMul, Nat.reduceSub, Nat.reduceDiv, Nat.reduceMod, Nat.reduceBEq, Nat.reduceBNe, reduceIte, reduceCtorEq, Int.reduceToNat, Int.reduceLT, Int.reduceLE, Int.reduceAdd, Int.reduceSub, Int.reduceMul, Int.reduceNeg, Int.reduceEq, Int.reduceNe, D_G, D_P, List.lookup, tys, intsV_len]
  refine ⟨by omega, Br.intro (fun hb => ?_) (fun hb => ?_)⟩
  · have hm : ¬ R.length % S ^ t = 0 := by
      simp only [Bool.not_eq_true', decide_eq_false_iff_not] at hb
      intro e; apply hb; rw [← Int.ofNat_tmod, e]; rfl
    simp -implicitDefEqProofs only [s_s, argEnv, PastOK, PendOK, sel, isE, isSp, baseOK, opR, opnd, opnds, opndL, ofConst, look, putE, dstOK, guardL, binR, intOp, loadR, bad, bound, lenV, srcV, Ob.read, V.plain, V.one, V.cells, fillV, setMany, zeros, TK.agg, Sub, cellRes, loadV, bindE, Nat.reduceAdd, Nat.reduceEqDiff, Nat.reduceLT, Nat.reduceLeDiff, Nat.reduceMul, Nat.reduceSub, Nat.reduceDiv, Nat.reduceMod, Nat.reduceBEq, Nat.reduceBNe, reduceIte, reduceCtorEq, Int.reduceToNat, Int.reduceLT, Int.reduceLE, Int.reduceAdd, Int.reduceSub, Int.reduceMul, Int.reduceNeg, Int.reduceEq, Int.reduceNe, D_G, D_P, List.lookup, tys, intsV_len]
    exact Post.r1 rfl ⟨_, _, rfl, .keep rfl, by simp [indexN, hm]⟩
  · have hm : R.length % S ^ t = 0 := by
      simp only [Bool.not_eq_false', decide_eq_true_eq] at hb
      rw [← Int.ofNat_tmod] at hb
      omega
    simp -implicitDefEqProofs only [s_s, argEnv, PastOK, PendOK, sel, isE, isSp, baseOK, opR, opnd, opnds, opndL, ofConst, look, putE, dstOK, guardL, binR, intOp, loadR, bad, bound, lenV, srcV, Ob.read, V.plain, V.one, V.cells, fillV, setMany, zeros, TK.agg, Sub, cellRes, loadV, bindE, Nat.reduceAdd, Nat.reduceEqDiff, Nat.reduceLT, Nat.reduceLeDiff, Nat.reduceMul, Nat.reduceSub, Nat.reduceDiv, Nat.reduceMod, Nat.reduceBEq, Nat.reduceBNe, reduceIte, reduceCtorEq, Int.reduceToNat, Int.reduceLT, Int.reduceLE, Int.reduceAdd, Int.reduceSub, Int.reduceMul, Int.reduceNeg, Int.reduceEq, Int.reduceNe, D_G, D_P, List.lookup, tys, intsV_len]
    refine Sp.call rfl rfl ?_
    refine occurring_spec S R k t h.k8 h.r1 h.r64 h.row8 _ ?_
    obtain ⟨L, hL⟩ : ∃ L, L = combs R (setsL k t) := ⟨_, rfl⟩
    rw [← hL]
    simp -implicitDefEqProofs only [s_s, argEnv, PastOK, PendOK, sel, isE, isSp, baseOK, opR, opnd, opnds, opndL, ofConst, look, putE, dstOK, guardL, binR, intOp, loadR, bad, bound, lenV, srcV, Ob.read, V.plain, V.one, V.cells, fillV, setMany, zeros, TK.agg, Sub, cellRes, loadV, bindE, Nat.reduceAdd, Nat.reduceEqDiff, Nat.reduceLT, Nat.reduceLeDiff, Nat.reduceMul, Nat.reduceSub, Nat.reduceDiv, Nat.reduceMod, Nat.reduceBEq, Nat.reduceBNe, reduceIte, reduceCtorEq, Int.reduceToNat, Int.reduceLT, Int.reduceLE, Int.reduceAdd, Int.reduceSub, Int.reduceMul, Int.reduceNeg, Int.reduceEq, Int.reduceNe, D_G, D_P, List.lookup, tys, intsV_len]
    refine Sp.range ty64 rfl rfl (st_get _ _ 1) ?_
    simp -implicitDefEqProofs only [s_s, argEnv, PastOK, PendOK, sel, isE, isSp, baseOK, opR, opnd, opnds, opndL, ofConst, look, putE, dstOK, guardL, binR, intOp, loadR, bad, bound, lenV, srcV, Ob.read, V.plain, V.one, V.cells, fillV, setMany, zeros, TK.agg, Sub, cellRes, loadV, bindE, Nat.reduceAdd, Nat.reduceEqDiff, Nat.reduceLT, Nat.reduceLeDiff, Nat.reduceMul, Nat.reduceSub, Nat.reduceDiv, Nat.reduceMod, Nat.reduceBEq, Nat.reduceBNe, reduceIte, reduceCtorEq, Int.reduceToNat, Int.reduceLT, Int.reduceLE, Int.reduceAdd, Int.reduceSub, Int.reduceMul, Int.reduceNeg, Int.reduceEq, Int.reduceNe, D_G, D_P, List.lookup, tys, intsV_len]
    refine WP.loopF (ι := List Nat) (fun _ => [(2, .ptr st.length 0 0), (5, .int .i64 (S ^ t : Nat)), (21, .ptr (st.length + 2) 0 0)])
      (fun seen => st ++ [.cells 0 [.int .i64 S, .lst 1 (R.map rowV)], .map (tally L), .iter (st.length + 1) (tally L).length seen])
      (fun seen => seen.Nodup ∧ ∀ i ∈ seen, i < (tally L).length ∧ ∀ q v, (tally L)[i]? = some (q, v) → times L q * S ^ t = R.length) (fun seen => (tally L).length - seen.length) [] ⟨List.nodup_nil, fun i hi => by cases hi⟩ (by simp -implicitDefEqProofs only [s_s, argEnv, PastOK, PendOK, sel, isE, isSp, baseOK, opR, opnd, opnds, opndL, ofConst, look, putE, dstOK, guardL, binR, intOp, loadR, bad, bound, lenV, srcV, Ob.read, V.plain, V.one, V.cells, fillV, setMany, zeros, TK.agg, Sub, cellRes, loadV, bindE, Nat.reduceAdd, Nat.reduceEqDiff, Nat.reduceLT, Nat.reduceLeDiff, Nat.reduceMul, Nat.reduceSub, Nat.reduceDiv, Nat.reduceMod, Nat.reduceBEq, Nat.reduceBNe, reduceIte, reduceCtorEq, Int.reduceToNat, Int.reduceLT, Int.reduceLE, Int.reduceAdd, Int.reduceSub, Int.reduceMul, Int.reduceNeg, Int.reduceEq, Int.reduceNe, D_G, D_P, List.lookup, tys, intsV_len]) rfl ?_
    rintro seen ⟨hnd, hall⟩
    simp -implicitDefEqProofs only [s_s, argEnv, PastOK, PendOK, sel, isE, isSp, baseOK, opR, opnd, opnds, opndL, ofConst, look, putE, dstOK, guardL, binR, intOp, loadR, bad, bound, lenV, srcV, Ob.read, V.plain, V.one, V.cells, fillV, setMany, zeros, TK.agg, Sub, cellRes, loadV, bindE, Nat.reduceAdd, Nat.reduceEqDiff, Nat.reduceLT, Nat.reduceLeDiff, Nat.reduceMul, Nat.reduceSub, Nat.reduceDiv, Nat.reduceMod, Nat.reduceBEq, Nat.reduceBNe, reduceIte, reduceCtorEq, Int.reduceToNat, Int.reduceLT, Int.reduceLE, Int.reduceAdd, Int.reduceSub, Int.reduceMul, Int.reduceNeg, Int.reduceEq, Int.reduceNe, D_G, D_P, List.lookup, tys, intsV_len]
    refine Sp.next (m := st.length + 1) (seen := seen) (es := tally L) rfl (st_get _ _ 2) (st_get _ _ 1) (fun hdone => ?_) (fun i q v hi hq => ?_)
    · simp -implicitDefEqProofs only [s_s, argEnv, PastOK, PendOK, sel, isE, isSp, baseOK, opR, opnd, opnds, opndL, ofConst, look, putE, dstOK, guardL, binR, intOp, loadR, bad, bound, lenV, srcV, Ob.read, V.plain, V.one, V.cells, fillV, setMany, zeros, TK.agg, Sub, cellRes, loadV, bindE, Nat.reduceAdd, Nat.reduceEqDiff, Nat.reduceLT, Nat.reduceLeDiff, Nat.reduceMul, Nat.reduceSub, Nat.reduceDiv, Nat.reduceMod, Nat.reduceBEq, Nat.reduceBNe, reduceIte, reduceCtorEq, Int.reduceToNat, Int.reduceLT, Int.reduceLE, Int.reduceAdd, Int.reduceSub, Int.reduceMul, Int.reduceNeg, Int.reduceEq, Int.reduceNe, D_G, D_P, List.lookup, tys, intsV_len]
      have hq : ∀ q ∈ L, times L q * S ^ t = R.length := fun q hq => by
        obtain ⟨i, hi⟩ := tally_has hq
        exact (hall i (hdone i (List.getElem?_eq_some_iff.1 hi).1)).2 q _ hi
      have e : ((R.length : Nat) : Int).tdiv ((S ^ t : Nat) : Int) = (R.length / S ^ t : Nat) := by rw [Int.ofNat_tdiv]
      have hd : R.length / S ^ t ≤ R.length := Nat.div_le_self _ _
      have w := wrapI (n := ((R.length / S ^ t : Nat) : Int)) (Int.le_trans (by decide) (Int.natCast_nonneg _)) (Int.le_trans (Int.ofNat_le.2 hd) (by omega))
      simp -implicitDefEqProofs only [s_s, argEnv, PastOK, PendOK, sel, isE, isSp, baseOK, opR, opnd, opnds, opndL, ofConst, look, putE, dstOK, guardL, binR, intOp, loadR, bad, bound, lenV, srcV, Ob.read, V.plain, V.one, V.cells, fillV, setMany, zeros, TK.agg, Sub, cellRes, loadV, bindE, Nat.reduceAdd, Nat.reduceEqDiff, Nat.reduceLT, Nat.reduceLeDiff, Nat.reduceMul, Nat.reduceSub, Nat.reduceDiv, Nat.reduceMod, Nat.reduceBEq, Nat.reduceBNe, reduceIte, reduceCtorEq, Int.reduceToNat, Int.reduceLT, Int.reduceLE, Int.reduceAdd, Int.reduceSub, Int.reduceMul, Int.reduceNeg, Int.reduceEq, Int.reduceNe, D_G, D_P, List.lookup, tys, intsV_len, e, w]
      refine ⟨by omega, Post.r1 rfl ⟨_, _, rfl, .keep rfl, ?_⟩⟩
      rw [indexN, if_pos ⟨hm, by rw [← hL]; exact hq⟩]
    · obtain ⟨rfl, hpos⟩ := tally_get hq
      have hlt := (List.getElem?_eq_some_iff.1 hq).1
      have htl := times_le L q
      have hLn : L.length ≤ 256 * 64 := by rw [hL, combs_len]; exact Nat.mul_le_mul (setsL_len hk8) hr64
      have hmul : times L q * S ^ t ≤ 256 * 64 * 16777216 := Nat.mul_le_mul (by omega) p2
      have w := wrapI (n := (times L q : Int) * ((S ^ t : Nat) : Int)) (by rw [← Int.natCast_mul]; omega) (by rw [← Int.natCast_mul]; omega)
      simp -implicitDefEqProofs only [s_s, argEnv, PastOK, PendOK, sel, isE, isSp, baseOK, opR, opnd, opnds, opndL, ofConst, look, putE, dstOK, guardL, binR, intOp, loadR, bad, bound, lenV, srcV, Ob.read, V.plain, V.one, V.cells, fillV, setMany, zeros, TK.agg, Sub, cellRes, loadV, bindE, Nat.reduceAdd, Nat.reduceEqDiff, Nat.reduceLT, Nat.reduceLeDiff, Nat.reduceMul, Nat.reduceSub, Nat.reduceDiv, Nat.reduceMod, Nat.reduceBEq, Nat.reduceBNe, reduceIte, reduceCtorEq, Int.reduceToNat, Int.reduceLT, Int.reduceLE, Int.reduceAdd, Int.reduceSub, Int.reduceMul, Int.reduceNeg, Int.reduceEq, Int.reduceNe, D_G, D_P, List.lookup, tys, intsV_len]
      refine Sp.entry (m := st.length + 1) (i := i) (seen := seen) (es := tally L) rfl (st_get _ _ 2) (st_get _ _ 1) hq ?_
      simp -implicitDefEqProofs only [s_s, argEnv, PastOK, PendOK, sel, isE, isSp, baseOK, opR, opnd, opnds, opndL, ofConst, look, putE, dstOK, guardL, binR, intOp, loadR, bad, bound, lenV, srcV, Ob.read, V.plain, V.one, V.cells, fillV, setMany, zeros, TK.agg, Sub, cellRes, loadV, bindE, Nat.reduceAdd, Nat.reduceEqDiff, Nat.reduceLT, Nat.reduceLeDiff, Nat.reduceMul, Nat.reduceSub, Nat.reduceDiv, Nat.reduceMod, Nat.reduceBEq, Nat.reduceBNe, reduceIte, reduceCtorEq, Int.reduceToNat, Int.reduceLT, Int.reduceLE, Int.reduceAdd, Int.reduceSub, Int.reduceMul, Int.reduceNeg, Int.reduceEq, Int.reduceNe, D_G, D_P, List.lookup, tys, intsV_len, w]
      refine Br.intro (fun h2 => ?_) (fun h2 => ?_)
      · have hne : ¬ times L q * S ^ t = R.length := by
          simp only [Bool.not_eq_true', decide_eq_false_iff_not] at h2
          intro e; apply h2; rw [← Int.natCast_mul, e]
        simp -implicitDefEqProofs only [s_s, argEnv, PastOK, PendOK, sel, isE, isSp, baseOK, opR, opnd, opnds, opndL, ofConst, look, putE, dstOK, guardL, binR, intOp, loadR, bad, bound, lenV, srcV, Ob.read, V.plain, V.one, V.cells, fillV, setMany, zeros, TK.agg, Sub, cellRes, loadV, bindE, Nat.reduceAdd, Nat.reduceEqDiff, Nat.reduceLT, Nat.reduceLeDiff, Nat.reduceMul, Nat.reduceSub, Nat.reduceDiv, Nat.reduceMod, Nat.reduceBEq, Nat.reduceBNe, reduceIte, reduceCtorEq, Int.reduceToNat, Int.reduceLT, Int.reduceLE, Int.reduceAdd, Int.reduceSub, Int.reduceMul, Int.reduceNeg, Int.reduceEq, Int.reduceNe, D_G, D_P, List.lookup, tys, intsV_len]
        refine Post.r1 rfl ⟨_, _, rfl, .keep rfl, ?_⟩
        rw [indexN, if_neg]
        · rfl
        · rintro ⟨_, hh⟩
          rw [← hL] at hh
          exact hne (hh q (times_pos.1 hpos))
      · have he : times L q * S ^ t = R.length := by
          simp only [Bool.not_eq_false', decide_eq_true_eq] at h2
          rw [← Int.natCast_mul] at h2
          omega
        simp -implicitDefEqProofs only [s_s, argEnv, PastOK, PendOK, sel, isE, isSp, baseOK, opR, opnd, opnds, opndL, ofConst, look, putE, dstOK, guardL, binR, intOp, loadR, bad, bound, lenV, srcV, Ob.read, V.plain, V.one, V.cells, fillV, setMany, zeros, TK.agg, Sub, cellRes, loadV, bindE, Nat.reduceAdd, Nat.reduceEqDiff, Nat.reduceLT, Nat.reduceLeDiff, Nat.reduceMul, Nat.reduceSub, Nat.reduceDiv, Nat.reduceMod, Nat.reduceBEq, Nat.reduceBNe, reduceIte, reduceCtorEq, Int.reduceToNat, Int.reduceLT, Int.reduceLE, Int.reduceAdd, Int.reduceSub, Int.reduceMul, Int.reduceNeg, Int.reduceEq, Int.reduceNe, D_G, D_P, List.lookup, tys, intsV_len]
        have hnd' : (seen ++ [i]).Nodup := by
          rw [List.nodup_append]
          exact ⟨hnd, by simp, fun a ha b hb => by simp only [List.mem_singleton] at hb; subst hb; rintro rfl; exact hi ha⟩
        have hall' : ∀ j ∈ seen ++ [i], j < (tally L).length ∧ ∀ q v, (tally L)[j]? = some (q, v) → times L q * S ^ t = R.length := fun j hj => by
          rcases List.mem_append.1 hj with hj | hj
          · exact hall j hj
          · simp only [List.mem_singleton] at hj
            subst hj
            refine ⟨hlt, fun q' v' h' => ?_⟩
            rw [hq] at h'; cases h'; exact he
        have hlen := nodup_len hnd' (fun j hj => (hall' j hj).1)
        refine Kl.next (seen ++ [i]) ⟨hnd', hall'⟩ (by simp at hlen ⊢; omega) ?_ ?_
        · simp -implicitDefEqProofs only [s_s, argEnv, PastOK, PendOK, sel, isE, isSp, baseOK, opR, opnd, opnds, opndL, ofConst, look, putE, dstOK, guardL, binR, intOp, loadR, bad, bound, lenV, srcV, Ob.read, V.plain, V.one, V.cells, fillV, setMany, zeros, TK.agg, Sub, cellRes, loadV, bindE, Nat.reduceAdd, Nat.reduceEqDiff, Nat.reduceLT, Nat.reduceLeDiff, Nat.reduceMul, Nat.reduceSub, Nat.reduceDiv, Nat.reduceMod, Nat.reduceBEq, Nat.reduceBNe, reduceIte, reduceCtorEq, Int.reduceToNat, Int.reduceLT, Int.reduceLE, Int.reduceAdd, Int.reduceSub, Int.reduceMul, Int.reduceNeg, Int.reduceEq, Int.reduceNe, D_G, D_P, List.lookup, tys, intsV_len]
        · rfl

/-- The greatest strength up to t, from above. -/
def strN (S : Nat) (R : List (List Int)) (k : Nat) : Nat → Nat
  | 0 => 0
  | t + 1 => if indexN S R k (t + 1) = 0 then strN S R k t else t + 1

theorem Strength_spec (S : Nat) (R : List (List Int)) (k : Nat) (h : ArrOK S R k) (st : St) :
    VCall D 11 [arrV S R] st (fun r st' => r = .int .i64 (strN S R k k) ∧ st' = st) := by
  obtain ⟨r0, hr0⟩ : ∃ r0, R[0]? = some r0 := ⟨_, List.getElem?_eq_getElem h.r1⟩
  have hk0 : r0.length = k := (h.row r0 (List.mem_of_getElem? hr0)).1
  have hv0 : (R.map rowV)[0]? = some (rowV r0) := by simp [hr0]
  have hk8 := h.k8
  refine VCall.clean ?_
  refine VCall.of_WP (fn := Tryd.f11) (c := _) Tryd.func11 rfl (by decide +kernel) (Nat.le_of_ble_eq_true rfl) ?_
  refine wpF_sound ?_
  simp -implicitDefEqProofs only [s_s, argEnv, PastOK, PendOK, sel, isE, isSp, baseOK, opR, opnd, opnds, opndL, ofConst, look, putE, dstOK, guardL, binR, intOp, loadR, bad, bound, lenV, srcV, Ob.read, V.plain, V.one, V.cells, fillV, setMany, zeros, TK.agg, Sub, cellRes, loadV, bindE, Nat.reduceAdd, Nat.reduceEqDiff, Nat.reduceLT, Nat.reduceLeDiff, Nat.reduceMul, Nat.reduceSub, Nat.reduceDiv, Nat.reduceMod, Nat.reduceBEq, Nat.reduceBNe, reduceIte, reduceCtorEq, Int.reduceToNat, Int.reduceLT, Int.reduceLE, Int.reduceAdd, Int.reduceSub, Int.reduceMul, Int.reduceNeg, Int.reduceEq, Int.reduceNe, D_G, D_P, List.lookup, tys, intsV_len, Tryd.ntmps11, Tryd.f11, arrV, hv0, rowV, hk0]
  refine ⟨by have := h.r1; omega, ?_⟩
  refine WP.loopF (ι := Nat) (fun t => [(1, .ptr st.length 0 0), (3, .int .i64 t)])
    (fun _ => st ++ [.cells 0 [.int .i64 S, .lst 1 (R.map rowV)]]) (fun t => t ≤ k ∧ strN S R k t = strN S R k k) (fun t => t) k ⟨Nat.le_refl _, rfl⟩ (by simp -implicitDefEqProofs only [s_s, argEnv, PastOK, PendOK, sel, isE, isSp, baseOK, opR, opnd, opnds, opndL, ofConst, look, putE, dstOK, guardL, binR, intOp, loadR, bad, bound, lenV, srcV, Ob.read, V.plain, V.one, V.cells, fillV, setMany, zeros, TK.agg, Sub, cellRes, loadV, bindE, Nat.reduceAdd, Nat.reduceEqDiff, Nat.reduceLT, Nat.reduceLeDiff, Nat.reduceMul, Nat.reduceSub, Nat.reduceDiv, Nat.reduceMod, Nat.reduceBEq, Nat.reduceBNe, reduceIte, reduceCtorEq, Int.reduceToNat, Int.reduceLT, Int.reduceLE, Int.reduceAdd, Int.reduceSub, Int.reduceMul, Int.reduceNeg, Int.reduceEq, Int.reduceNe, D_G, D_P, List.lookup, tys, intsV_len]) rfl ?_
  rintro t ⟨ht, hs⟩
  simp -implicitDefEqProofs only [s_s, argEnv, PastOK, PendOK, sel, isE, isSp, baseOK, opR, opnd, opnds, opndL, ofConst, look, putE, dstOK, guardL, binR, intOp, loadR, bad, bound, lenV, srcV, Ob.read, V.plain, V.one, V.cells, fillV, setMany, zeros, TK.agg, Sub, cellRes, loadV, bindE, Nat.reduceAdd, Nat.reduceEqDiff, Nat.reduceLT, Nat.reduceLeDiff, Nat.reduceMul, Nat.reduceSub, Nat.reduceDiv, Nat.reduceMod, Nat.reduceBEq, Nat.reduceBNe, reduceIte, reduceCtorEq, Int.reduceToNat, Int.reduceLT, Int.reduceLE, Int.reduceAdd, Int.reduceSub, Int.reduceMul, Int.reduceNeg, Int.reduceEq, Int.reduceNe, D_G, D_P, List.lookup, tys, intsV_len]
  refine OpsG.intro (fun h1 => ?_) (fun h1 => ?_)
  · have ht0 : 0 < t := by simpa using h1
    simp -implicitDefEqProofs only [s_s, argEnv, PastOK, PendOK, sel, isE, isSp, baseOK, opR, opnd, opnds, opndL, ofConst, look, putE, dstOK, guardL, binR, intOp, loadR, bad, bound, lenV, srcV, Ob.read, V.plain, V.one, V.cells, fillV, setMany, zeros, TK.agg, Sub, cellRes, loadV, bindE, Nat.reduceAdd, Nat.reduceEqDiff, Nat.reduceLT, Nat.reduceLeDiff, Nat.reduceMul, Nat.reduceSub, Nat.reduceDiv, Nat.reduceMod, Nat.reduceBEq, Nat.reduceBNe, reduceIte, reduceCtorEq, Int.reduceToNat, Int.reduceLT, Int.reduceLE, Int.reduceAdd, Int.reduceSub, Int.reduceMul, Int.reduceNeg, Int.reduceEq, Int.reduceNe, D_G, D_P, List.lookup, tys, intsV_len, h1]
    refine Sp.call rfl rfl ?_
    refine (index_spec S R k h t ht _).mono ?_
    rintro r st' ⟨rfl, rfl⟩
    simp -implicitDefEqProofs only [s_s, argEnv, PastOK, PendOK, sel, isE, isSp, baseOK, opR, opnd, opnds, opndL, ofConst, look, putE, dstOK, guardL, binR, intOp, loadR, bad, bound, lenV, srcV, Ob.read, V.plain, V.one, V.cells, fillV, setMany, zeros, TK.agg, Sub, cellRes, loadV, bindE, Nat.reduceAdd, Nat.reduceEqDiff, Nat.reduceLT, Nat.reduceLeDiff, Nat.reduceMul, Nat.reduceSub, Nat.reduceDiv, Nat.reduceMod, Nat.reduceBEq, Nat.reduceBNe, reduceIte, reduceCtorEq, Int.reduceToNat, Int.reduceLT, Int.reduceLE, Int.reduceAdd, Int.reduceSub, Int.reduceMul, Int.reduceNeg, Int.reduceEq, Int.reduceNe, D_G, D_P, List.lookup, tys, intsV_len, h1]
    refine Br.intro (fun h2 => ?_) (fun h2 => ?_)
    · have h3 : indexN S R k t = 0 := by have := of_decide_eq_true h2; omega
      have w := wrapI (n := ((t - 1 : Nat) : Int)) (by omega) (by omega)
      have e : (t : Int) - 1 = ((t - 1 : Nat) : Int) := by omega
      simp -implicitDefEqProofs only [s_s, argEnv, PastOK, PendOK, sel, isE, isSp, baseOK, opR, opnd, opnds, opndL, ofConst, look, putE, dstOK, guardL, binR, intOp, loadR, bad, bound, lenV, srcV, Ob.read, V.plain, V.one, V.cells, fillV, setMany, zeros, TK.agg, Sub, cellRes, loadV, bindE, Nat.reduceAdd, Nat.reduceEqDiff, Nat.reduceLT, Nat.reduceLeDiff, Nat.reduceMul, Nat.reduceSub, Nat.reduceDiv, Nat.reduceMod, Nat.reduceBEq, Nat.reduceBNe, reduceIte, reduceCtorEq, Int.reduceToNat, Int.reduceLT, Int.reduceLE, Int.reduceAdd, Int.reduceSub, Int.reduceMul, Int.reduceNeg, Int.reduceEq, Int.reduceNe, D_G, D_P, List.lookup, tys, intsV_len, w, e]
      refine Kl.next (t - 1) ⟨by omega, ?_⟩ (by omega) (by simp -implicitDefEqProofs only [s_s, argEnv, PastOK, PendOK, sel, isE, isSp, baseOK, opR, opnd, opnds, opndL, ofConst, look, putE, dstOK, guardL, binR, intOp, loadR, bad, bound, lenV, srcV, Ob.read, V.plain, V.one, V.cells, fillV, setMany, zeros, TK.agg, Sub, cellRes, loadV, bindE, Nat.reduceAdd, Nat.reduceEqDiff, Nat.reduceLT, Nat.reduceLeDiff, Nat.reduceMul, Nat.reduceSub, Nat.reduceDiv, Nat.reduceMod, Nat.reduceBEq, Nat.reduceBNe, reduceIte, reduceCtorEq, Int.reduceToNat, Int.reduceLT, Int.reduceLE, Int.reduceAdd, Int.reduceSub, Int.reduceMul, Int.reduceNeg, Int.reduceEq, Int.reduceNe, D_G, D_P, List.lookup, tys, intsV_len]) rfl
      rw [← hs]
      obtain ⟨d, rfl⟩ : ∃ d, t = d + 1 := ⟨t - 1, by omega⟩
      simp [strN, h3]
    · have h3 : ¬ indexN S R k t = 0 := by have := of_decide_eq_false h2; omega
      simp -implicitDefEqProofs only [s_s, argEnv, PastOK, PendOK, sel, isE, isSp, baseOK, opR, opnd, opnds, opndL, ofConst, look, putE, dstOK, guardL, binR, intOp, loadR, bad, bound, lenV, srcV, Ob.read, V.plain, V.one, V.cells, fillV, setMany, zeros, TK.agg, Sub, cellRes, loadV, bindE, Nat.reduceAdd, Nat.reduceEqDiff, Nat.reduceLT, Nat.reduceLeDiff, Nat.reduceMul, Nat.reduceSub, Nat.reduceDiv, Nat.reduceMod, Nat.reduceBEq, Nat.reduceBNe, reduceIte, reduceCtorEq, Int.reduceToNat, Int.reduceLT, Int.reduceLE, Int.reduceAdd, Int.reduceSub, Int.reduceMul, Int.reduceNeg, Int.reduceEq, Int.reduceNe, D_G, D_P, List.lookup, tys, intsV_len]
      refine Post.r1 rfl ⟨_, _, rfl, .keep rfl, ?_⟩
      rw [← hs]
      obtain ⟨d, rfl⟩ : ∃ d, t = d + 1 := ⟨t - 1, by omega⟩
      simp [strN, h3]
  · have ht0 : t = 0 := by have := of_decide_eq_false h1; omega
    subst ht0
    simp -implicitDefEqProofs only [s_s, argEnv, PastOK, PendOK, sel, isE, isSp, baseOK, opR, opnd, opnds, opndL, ofConst, look, putE, dstOK, guardL, binR, intOp, loadR, bad, bound, lenV, srcV, Ob.read, V.plain, V.one, V.cells, fillV, setMany, zeros, TK.agg, Sub, cellRes, loadV, bindE, Nat.reduceAdd, Nat.reduceEqDiff, Nat.reduceLT, Nat.reduceLeDiff, Nat.reduceMul, Nat.reduceSub, Nat.reduceDiv, Nat.reduceMod, Nat.reduceBEq, Nat.reduceBNe, reduceIte, reduceCtorEq, Int.reduceToNat, Int.reduceLT, Int.reduceLE, Int.reduceAdd, Int.reduceSub, Int.reduceMul, Int.reduceNeg, Int.reduceEq, Int.reduceNe, D_G, D_P, List.lookup, tys, intsV_len, h1]
    refine Post.r1 rfl ⟨_, _, rfl, .keep rfl, ?_⟩
    rw [← hs]; rfl
end Go.VL
end

/- The array seat: the reference's small functions. -/
section
set_option linter.unusedSimpArgs false
set_option maxRecDepth 4000
namespace Go.VL
open Go Go.Proofs

theorem refPower_spec (s t : Nat) (hs : 1 ≤ s) (hb : s ^ t ≤ 1000000000) (ht : t ≤ 1000) (st : St) : VCall D 25 [.int .i64 s, .int .i64 t] st (fun r st' => r = .int .i64 (s ^ t : Nat) ∧ st' = st) := by
  refine VCall.of_WP (fn := Tryd.f25) (c := _) Tryd.func25 rfl (by decide +kernel) (Nat.le_of_ble_eq_true rfl) ?_
  refine wpF_sound ?_
  simp -implicitDefEqProofs only [s_s, argEnv, PastOK, PendOK, sel, isE, isSp, baseOK, opR, opnd, opnds, opndL, ofConst, look, putE, dstOK, guardL, binR, intOp, loadR, bad, bound, lenV, srcV, Ob.read, V.plain, V.one, V.cells, fillV, setMany, zeros, TK.agg, Sub, cellRes, loadV, bindE, Nat.reduceAdd, Nat.reduceEqDiff, Nat.reduceLT, Nat.reduceLeDiff, Nat.reduceMul, Nat.reduceSub, Nat.reduceDiv, Nat.reduceMod, Nat.reduceBEq, Nat.reduceBNe, reduceIte, reduceCtorEq, Int.reduceToNat, Int.reduceLT, Int.reduceLE, Int.reduceAdd, Int.reduceSub, Int.reduceMul, Int.reduceNeg, Int.reduceEq, Int.reduceNe, D_G, D_P, List.lookup, tys, intsV_len, Tryd.ntmps25, Tryd.f25]
  refine WP.loopF (ι := Nat) (fun i => [(0, .int .i64 s), (1, .int .i64 t), (5, .int .i64 (s ^ i : Nat)), (6, .int .i64 i)]) (fun _ => st) (fun i => i ≤ t) (fun i => t - i) 0 (by omega) (by simp -implicitDefEqProofs only [s_s, argEnv, PastOK, PendOK, sel, isE, isSp, baseOK, opR, opnd, opnds, opndL, ofConst, look, putE, dstOK, guardL, binR, intOp, loadR, bad, bound, lenV, srcV, Ob.read, V.plain, V.one, V.cells, fillV, setMany, zeros, TK.agg, Sub, cellRes, loadV, bindE, Nat.reduceAdd, Nat.reduceEqDiff, Nat.reduceLT, Nat.reduceLeDiff, Nat.reduceMul, Nat.reduceSub, Nat.reduceDiv, Nat.reduceMod, Nat.reduceBEq, Nat.reduceBNe, reduceIte, reduceCtorEq, Int.reduceToNat, Int.reduceLT, Int.reduceLE, Int.reduceAdd, Int.reduceSub, Int.reduceMul, Int.reduceNeg, Int.reduceEq, Int.reduceNe, D_G, D_P, List.lookup, tys, intsV_len]; simp) rfl ?_
  intro i hi
  simp -implicitDefEqProofs only [s_s, argEnv, PastOK, PendOK, sel, isE, isSp, baseOK, opR, opnd, opnds, opndL, ofConst, look, putE, dstOK, guardL, binR, intOp, loadR, bad, bound, lenV, srcV, Ob.read, V.plain, V.one, V.cells, fillV, setMany, zeros, TK.agg, Sub, cellRes, loadV, bindE, Nat.reduceAdd, Nat.reduceEqDiff, Nat.reduceLT, Nat.reduceLeDiff, Nat.reduceMul, Nat.reduceSub, Nat.reduceDiv, Nat.reduceMod, Nat.reduceBEq, Nat.reduceBNe, reduceIte, reduceCtorEq, Int.reduceToNat, Int.reduceLT, Int.reduceLE, Int.reduceAdd, Int.reduceSub, Int.reduceMul, Int.reduceNeg, Int.reduceEq, Int.reduceNe, D_G, D_P, List.lookup, tys, intsV_len]
  refine Br.intro (fun h => ?_) (fun h => ?_)
  · have h' : i < t := by simpa using h
    have p1 := pow_mono hs (show i + 1 ≤ t from h')
    have e : ((s ^ i : Nat) : Int) * s = (s ^ (i + 1) : Nat) := by rw [Nat.pow_succ]; simp
    have w1 := wrapI (n := ((s ^ i : Nat) : Int) * s) (by rw [e]; omega) (by rw [e]; omega)
    have w2 := wrapI (n := (i : Int) + 1) (by omega) (by omega)
    simp -implicitDefEqProofs only [s_s, argEnv, PastOK, PendOK, sel, isE, isSp, baseOK, opR, opnd, opnds, opndL, ofConst, look, putE, dstOK, guardL, binR, intOp, loadR, bad, bound, lenV, srcV, Ob.read, V.plain, V.one, V.cells, fillV, setMany, zeros, TK.agg, Sub, cellRes, loadV, bindE, Nat.reduceAdd, Nat.reduceEqDiff, Nat.reduceLT, Nat.reduceLeDiff, Nat.reduceMul, Nat.reduceSub, Nat.reduceDiv, Nat.reduceMod, Nat.reduceBEq, Nat.reduceBNe, reduceIte, reduceCtorEq, Int.reduceToNat, Int.reduceLT, Int.reduceLE, Int.reduceAdd, Int.reduceSub, Int.reduceMul, Int.reduceNeg, Int.reduceEq, Int.reduceNe, D_G, D_P, List.lookup, tys, intsV_len, w1, w2]
    refine Kl.next (i + 1) (by omega) (by omega) ?_ rfl
    simp -implicitDefEqProofs only [s_s, argEnv, PastOK, PendOK, sel, isE, isSp, baseOK, opR, opnd, opnds, opndL, ofConst, look, putE, dstOK, guardL, binR, intOp, loadR, bad, bound, lenV, srcV, Ob.read, V.plain, V.one, V.cells, fillV, setMany, zeros, TK.agg, Sub, cellRes, loadV, bindE, Nat.reduceAdd, Nat.reduceEqDiff, Nat.reduceLT, Nat.reduceLeDiff, Nat.reduceMul, Nat.reduceSub, Nat.reduceDiv, Nat.reduceMod, Nat.reduceBEq, Nat.reduceBNe, reduceIte, reduceCtorEq, Int.reduceToNat, Int.reduceLT, Int.reduceLE, Int.reduceAdd, Int.reduceSub, Int.reduceMul, Int.reduceNeg, Int.reduceEq, Int.reduceNe, D_G, D_P, List.lookup, tys, intsV_len, e, Int.natCast_add, Int.natCast_one]
  · have : i = t := by have : ¬ i < t := by simpa using h
                       omega
    subst this
    simp -implicitDefEqProofs only [s_s, argEnv, PastOK, PendOK, sel, isE, isSp, baseOK, opR, opnd, opnds, opndL, ofConst, look, putE, dstOK, guardL, binR, intOp, loadR, bad, bound, lenV, srcV, Ob.read, V.plain, V.one, V.cells, fillV, setMany, zeros, TK.agg, Sub, cellRes, loadV, bindE, Nat.reduceAdd, Nat.reduceEqDiff, Nat.reduceLT, Nat.reduceLeDiff, Nat.reduceMul, Nat.reduceSub, Nat.reduceDiv, Nat.reduceMod, Nat.reduceBEq, Nat.reduceBNe, reduceIte, reduceCtorEq, Int.reduceToNat, Int.reduceLT, Int.reduceLE, Int.reduceAdd, Int.reduceSub, Int.reduceMul, Int.reduceNeg, Int.reduceEq, Int.reduceNe, D_G, D_P, List.lookup, tys, intsV_len]
    exact Post.r1 rfl ⟨rfl, rfl⟩

theorem list_ext_lt {α : Type} {a b : List α} (hl : a.length = b.length) (h : ∀ i, i < a.length → a[i]? = b[i]?) : a = b := by
  apply List.ext_getElem?
  intro i
  rcases Nat.lt_or_ge i a.length with hi | hi
  · exact h i hi
  · rw [List.getElem?_eq_none hi, List.getElem?_eq_none (by omega)]

theorem same_spec (a b : List Int) (ha : a.length < 1000000) (st : St) : VCall D 38 [rowV a, rowV b] st (fun r st' => r = .bool (decide (a = b)) ∧ st' = st) := by
  refine VCall.of_WP (fn := Tryd.f38) (c := _) Tryd.func38 rfl (by decide +kernel) (Nat.le_of_ble_eq_true rfl) ?_
  refine wpF_sound ?_
  simp -implicitDefEqProofs only [s_s, argEnv, PastOK, PendOK, sel, isE, isSp, baseOK, opR, opnd, opnds, opndL, ofConst, look, putE, dstOK, guardL, binR, intOp, loadR, bad, bound, lenV, srcV, Ob.read, V.plain, V.one, V.cells, fillV, setMany, zeros, TK.agg, Sub, cellRes, loadV, bindE, Nat.reduceAdd, Nat.reduceEqDiff, Nat.reduceLT, Nat.reduceLeDiff, Nat.reduceMul, Nat.reduceSub, Nat.reduceDiv, Nat.reduceMod, Nat.reduceBEq, Nat.reduceBNe, reduceIte, reduceCtorEq, Int.reduceToNat, Int.reduceLT, Int.reduceLE, Int.reduceAdd, Int.reduceSub, Int.reduceMul, Int.reduceNeg, Int.reduceEq, Int.reduceNe, D_G, D_P, List.lookup, tys, intsV_len, Tryd.ntmps38, Tryd.f38, rowV]
  refine Br.intro (fun h => ?_) (fun h => ?_)
  · have h' : ¬ a = b := by rintro rfl; simp at h
    simp -implicitDefEqProofs only [s_s, argEnv, PastOK, PendOK, sel, isE, isSp, baseOK, opR, opnd, opnds, opndL, ofConst, look, putE, dstOK, guardL, binR, intOp, loadR, bad, bound, lenV, srcV, Ob.read, V.plain, V.one, V.cells, fillV, setMany, zeros, TK.agg, Sub, cellRes, loadV, bindE, Nat.reduceAdd, Nat.reduceEqDiff, Nat.reduceLT, Nat.reduceLeDiff, Nat.reduceMul, Nat.reduceSub, Nat.reduceDiv, Nat.reduceMod, Nat.reduceBEq, Nat.reduceBNe, reduceIte, reduceCtorEq, Int.reduceToNat, Int.reduceLT, Int.reduceLE, Int.reduceAdd, Int.reduceSub, Int.reduceMul, Int.reduceNeg, Int.reduceEq, Int.reduceNe, D_G, D_P, List.lookup, tys, intsV_len]
    exact Post.r1 rfl ⟨by simp [h'], rfl⟩
  · have hl : a.length = b.length := by simp at h; omega
    simp -implicitDefEqProofs only [s_s, argEnv, PastOK, PendOK, sel, isE, isSp, baseOK, opR, opnd, opnds, opndL, ofConst, look, putE, dstOK, guardL, binR, intOp, loadR, bad, bound, lenV, srcV, Ob.read, V.plain, V.one, V.cells, fillV, setMany, zeros, TK.agg, Sub, cellRes, loadV, bindE, Nat.reduceAdd, Nat.reduceEqDiff, Nat.reduceLT, Nat.reduceLeDiff, Nat.reduceMul, Nat.reduceSub, Nat.reduceDiv, Nat.reduceMod, Nat.reduceBEq, Nat.reduceBNe, reduceIte, reduceCtorEq, Int.reduceToNat, Int.reduceLT, Int.reduceLE, Int.reduceAdd, Int.reduceSub, Int.reduceMul, Int.reduceNeg, Int.reduceEq, Int.reduceNe, D_G, D_P, List.lookup, tys, intsV_len]
    refine WP.loopF (ι := Nat) (fun i => [(0, rowV a), (1, rowV b), (5, .int .i64 i)]) (fun _ => st) (fun i => i ≤ a.length ∧ ∀ j, j < i → a[j]? = b[j]?) (fun i => a.length - i) 0 ⟨by omega, fun j hj => by omega⟩ (by simp -implicitDefEqProofs only [s_s, argEnv, PastOK, PendOK, sel, isE, isSp, baseOK, opR, opnd, opnds, opndL, ofConst, look, putE, dstOK, guardL, binR, intOp, loadR, bad, bound, lenV, srcV, Ob.read, V.plain, V.one, V.cells, fillV, setMany, zeros, TK.agg, Sub, cellRes, loadV, bindE, Nat.reduceAdd, Nat.reduceEqDiff, Nat.reduceLT, Nat.reduceLeDiff, Nat.reduceMul, Nat.reduceSub, Nat.reduceDiv, Nat.reduceMod, Nat.reduceBEq, Nat.reduceBNe, reduceIte, reduceCtorEq, Int.reduceToNat, Int.reduceLT, Int.reduceLE, Int.reduceAdd, Int.reduceSub, Int.reduceMul, Int.reduceNeg, Int.reduceEq, Int.reduceNe, D_G, D_P, List.lookup, tys, intsV_len, rowV]; simp) rfl ?_
    rintro i ⟨hi, heq⟩
    simp -implicitDefEqProofs only [s_s, argEnv, PastOK, PendOK, sel, isE, isSp, baseOK, opR, opnd, opnds, opndL, ofConst, look, putE, dstOK, guardL, binR, intOp, loadR, bad, bound, lenV, srcV, Ob.read, V.plain, V.one, V.cells, fillV, setMany, zeros, TK.agg, Sub, cellRes, loadV, bindE, Nat.reduceAdd, Nat.reduceEqDiff, Nat.reduceLT, Nat.reduceLeDiff, Nat.reduceMul, Nat.reduceSub, Nat.reduceDiv, Nat.reduceMod, Nat.reduceBEq, Nat.reduceBNe, reduceIte, reduceCtorEq, Int.reduceToNat, Int.reduceLT, Int.reduceLE, Int.reduceAdd, Int.reduceSub, Int.reduceMul, Int.reduceNeg, Int.reduceEq, Int.reduceNe, D_G, D_P, List.lookup, tys, intsV_len, rowV]
    refine Br.intro (fun h => ?_) (fun h => ?_)
    · have h' : i < a.length := by simpa using h
      obtain ⟨x, hx⟩ : ∃ x, a[i]? = some x := ⟨_, List.getElem?_eq_getElem h'⟩
      obtain ⟨y, hy⟩ : ∃ y, b[i]? = some y := ⟨_, List.getElem?_eq_getElem (by omega)⟩
      have hvx : (intsV a)[i]? = some (.int .i64 x) := by simp [intsV, hx]
      have hvy : (intsV b)[i]? = some (.int .i64 y) := by simp [intsV, hy]
      have w2 := wrapI (n := (i : Int) + 1) (by omega) (by omega)
      simp -implicitDefEqProofs only [s_s, argEnv, PastOK, PendOK, sel, isE, isSp, baseOK, opR, opnd, opnds, opndL, ofConst, look, putE, dstOK, guardL, binR, intOp, loadR, bad, bound, lenV, srcV, Ob.read, V.plain, V.one, V.cells, fillV, setMany, zeros, TK.agg, Sub, cellRes, loadV, bindE, Nat.reduceAdd, Nat.reduceEqDiff, Nat.reduceLT, Nat.reduceLeDiff, Nat.reduceMul, Nat.reduceSub, Nat.reduceDiv, Nat.reduceMod, Nat.reduceBEq, Nat.reduceBNe, reduceIte, reduceCtorEq, Int.reduceToNat, Int.reduceLT, Int.reduceLE, Int.reduceAdd, Int.reduceSub, Int.reduceMul, Int.reduceNeg, Int.reduceEq, Int.reduceNe, D_G, D_P, List.lookup, tys, intsV_len]
      refine WP.drawF [(0, 0, 0, [0]), (0, 0, 0, [5]), (3, 0, 0, [17, 18]), (7, 0, 0, [19]), (0, 0, 0, [1]), (0, 0, 0, [5]), (48, 0, 0, [21, 22]), (112, 0, 0, [23]), (255, 0, 0, [20, 24])] D_mixed (by decide +kernel) ?_
      simp -implicitDefEqProofs only [s_s, argEnv, PastOK, PendOK, sel, isE, isSp, baseOK, opR, opnd, opnds, opndL, ofConst, look, putE, dstOK, guardL, binR, intOp, loadR, bad, bound, lenV, srcV, Ob.read, V.plain, V.one, V.cells, fillV, setMany, zeros, TK.agg, Sub, cellRes, loadV, bindE, Nat.reduceAdd, Nat.reduceEqDiff, Nat.reduceLT, Nat.reduceLeDiff, Nat.reduceMul, Nat.reduceSub, Nat.reduceDiv, Nat.reduceMod, Nat.reduceBEq, Nat.reduceBNe, reduceIte, reduceCtorEq, Int.reduceToNat, Int.reduceLT, Int.reduceLE, Int.reduceAdd, Int.reduceSub, Int.reduceMul, Int.reduceNeg, Int.reduceEq, Int.reduceNe, D_G, D_P, List.lookup, tys, intsV_len, hvx, hvy]
      refine ⟨by omega, by omega, Br.intro (fun h2 => ?_) (fun h2 => ?_)⟩
      · have h2' : ¬ x = y := by simpa using h2
        have h' : ¬ a = b := by rintro rfl; rw [hx] at hy; cases hy; exact h2' rfl
        simp -implicitDefEqProofs only [s_s, argEnv, PastOK, PendOK, sel, isE, isSp, baseOK, opR, opnd, opnds, opndL, ofConst, look, putE, dstOK, guardL, binR, intOp, loadR, bad, bound, lenV, srcV, Ob.read, V.plain, V.one, V.cells, fillV, setMany, zeros, TK.agg, Sub, cellRes, loadV, bindE, Nat.reduceAdd, Nat.reduceEqDiff, Nat.reduceLT, Nat.reduceLeDiff, Nat.reduceMul, Nat.reduceSub, Nat.reduceDiv, Nat.reduceMod, Nat.reduceBEq, Nat.reduceBNe, reduceIte, reduceCtorEq, Int.reduceToNat, Int.reduceLT, Int.reduceLE, Int.reduceAdd, Int.reduceSub, Int.reduceMul, Int.reduceNeg, Int.reduceEq, Int.reduceNe, D_G, D_P, List.lookup, tys, intsV_len]
        exact Post.r1 rfl ⟨by simp [h'], rfl⟩
      · have h2' : x = y := by simpa using h2
        simp -implicitDefEqProofs only [s_s, argEnv, PastOK, PendOK, sel, isE, isSp, baseOK, opR, opnd, opnds, opndL, ofConst, look, putE, dstOK, guardL, binR, intOp, loadR, bad, bound, lenV, srcV, Ob.read, V.plain, V.one, V.cells, fillV, setMany, zeros, TK.agg, Sub, cellRes, loadV, bindE, Nat.reduceAdd, Nat.reduceEqDiff, Nat.reduceLT, Nat.reduceLeDiff, Nat.reduceMul, Nat.reduceSub, Nat.reduceDiv, Nat.reduceMod, Nat.reduceBEq, Nat.reduceBNe, reduceIte, reduceCtorEq, Int.reduceToNat, Int.reduceLT, Int.reduceLE, Int.reduceAdd, Int.reduceSub, Int.reduceMul, Int.reduceNeg, Int.reduceEq, Int.reduceNe, D_G, D_P, List.lookup, tys, intsV_len, w2]
        refine Kl.next (i + 1) ⟨by omega, fun j hj => ?_⟩ (by omega) ?_ rfl
        · by_cases e : j = i
          · subst e; rw [hx, hy, h2']
          · exact heq j (by omega)
        · simp -implicitDefEqProofs only [s_s, argEnv, PastOK, PendOK, sel, isE, isSp, baseOK, opR, opnd, opnds, opndL, ofConst, look, putE, dstOK, guardL, binR, intOp, loadR, bad, bound, lenV, srcV, Ob.read, V.plain, V.one, V.cells, fillV, setMany, zeros, TK.agg, Sub, cellRes, loadV, bindE, Nat.reduceAdd, Nat.reduceEqDiff, Nat.reduceLT, Nat.reduceLeDiff, Nat.reduceMul, Nat.reduceSub, Nat.reduceDiv, Nat.reduceMod, Nat.reduceBEq, Nat.reduceBNe, reduceIte, reduceCtorEq, Int.reduceToNat, Int.reduceLT, Int.reduceLE, Int.reduceAdd, Int.reduceSub, Int.reduceMul, Int.reduceNeg, Int.reduceEq, Int.reduceNe, D_G, D_P, List.lookup, tys, intsV_len, Int.natCast_add, Int.natCast_one, rowV]
    · have hi' : i = a.length := by have : ¬ i < a.length := by simpa using h
                                    omega
      subst hi'
      have h' : a = b := list_ext_lt hl heq
      simp -implicitDefEqProofs only [s_s, argEnv, PastOK, PendOK, sel, isE, isSp, baseOK, opR, opnd, opnds, opndL, ofConst, look, putE, dstOK, guardL, binR, intOp, loadR, bad, bound, lenV, srcV, Ob.read, V.plain, V.one, V.cells, fillV, setMany, zeros, TK.agg, Sub, cellRes, loadV, bindE, Nat.reduceAdd, Nat.reduceEqDiff, Nat.reduceLT, Nat.reduceLeDiff, Nat.reduceMul, Nat.reduceSub, Nat.reduceDiv, Nat.reduceMod, Nat.reduceBEq, Nat.reduceBNe, reduceIte, reduceCtorEq, Int.reduceToNat, Int.reduceLT, Int.reduceLE, Int.reduceAdd, Int.reduceSub, Int.reduceMul, Int.reduceNeg, Int.reduceEq, Int.reduceNe, D_G, D_P, List.lookup, tys, intsV_len]
      exact Post.r1 rfl ⟨by simp [h'], rfl⟩

theorem Same_spec (S S' : Int) (R R' : List (List Int)) (hR : R.length < 1000) (hr : ∀ r ∈ R, r.length < 1000) (st : St) : VCall D 19 [arrV S R, arrV S' R'] st (fun r st' => r = .bool (decide (S = S' ∧ R = R')) ∧ st' = st) := by
  refine VCall.clean ?_
  refine VCall.of_WP (fn := Tryd.f19) (c := _) Tryd.func19 rfl (by decide +kernel) (Nat.le_of_ble_eq_true rfl) ?_
  refine wpF_sound ?_
  simp -implicitDefEqProofs only [s_s, argEnv, PastOK, PendOK, sel, isE, isSp, baseOK, opR, opnd, opnds, opndL, ofConst, look, putE, dstOK, guardL, binR, intOp, loadR, bad, bound, lenV, srcV, Ob.read, V.plain, V.one, V.cells, fillV, setMany, zeros, TK.agg, Sub, cellRes, loadV, bindE, Nat.reduceAdd, Nat.reduceEqDiff, Nat.reduceLT, Nat.reduceLeDiff, Nat.reduceMul, Nat.reduceSub, Nat.reduceDiv, Nat.reduceMod, Nat.reduceBEq, Nat.reduceBNe, reduceIte, reduceCtorEq, Int.reduceToNat, Int.reduceLT, Int.reduceLE, Int.reduceAdd, Int.reduceSub, Int.reduceMul, Int.reduceNeg, Int.reduceEq, Int.reduceNe, D_G, D_P, List.lookup, tys, intsV_len, Tryd.ntmps19, Tryd.f19, arrV]
  refine OpsG.intro (fun h => ?_) (fun h => ?_)
  · have h' : ¬ S = S' := by simpa using h
    simp -implicitDefEqProofs only [s_s, argEnv, PastOK, PendOK, sel, isE, isSp, baseOK, opR, opnd, opnds, opndL, ofConst, look, putE, dstOK, guardL, binR, intOp, loadR, bad, bound, lenV, srcV, Ob.read, V.plain, V.one, V.cells, fillV, setMany, zeros, TK.agg, Sub, cellRes, loadV, bindE, Nat.reduceAdd, Nat.reduceEqDiff, Nat.reduceLT, Nat.reduceLeDiff, Nat.reduceMul, Nat.reduceSub, Nat.reduceDiv, Nat.reduceMod, Nat.reduceBEq, Nat.reduceBNe, reduceIte, reduceCtorEq, Int.reduceToNat, Int.reduceLT, Int.reduceLE, Int.reduceAdd, Int.reduceSub, Int.reduceMul, Int.reduceNeg, Int.reduceEq, Int.reduceNe, D_G, D_P, List.lookup, tys, intsV_len, h]
    exact Post.r1 rfl ⟨_, _, rfl, .keep rfl, by simp [h']⟩
  · have hS : S = S' := by simpa using h
    simp -implicitDefEqProofs only [s_s, argEnv, PastOK, PendOK, sel, isE, isSp, baseOK, opR, opnd, opnds, opndL, ofConst, look, putE, dstOK, guardL, binR, intOp, loadR, bad, bound, lenV, srcV, Ob.read, V.plain, V.one, V.cells, fillV, setMany, zeros, TK.agg, Sub, cellRes, loadV, bindE, Nat.reduceAdd, Nat.reduceEqDiff, Nat.reduceLT, Nat.reduceLeDiff, Nat.reduceMul, Nat.reduceSub, Nat.reduceDiv, Nat.reduceMod, Nat.reduceBEq, Nat.reduceBNe, reduceIte, reduceCtorEq, Int.reduceToNat, Int.reduceLT, Int.reduceLE, Int.reduceAdd, Int.reduceSub, Int.reduceMul, Int.reduceNeg, Int.reduceEq, Int.reduceNe, D_G, D_P, List.lookup, tys, intsV_len, h]
    refine Br.intro (fun h2 => ?_) (fun h2 => ?_)
    · have h' : ¬ R = R' := by rintro rfl; simp at h2
      simp -implicitDefEqProofs only [s_s, argEnv, PastOK, PendOK, sel, isE, isSp, baseOK, opR, opnd, opnds, opndL, ofConst, look, putE, dstOK, guardL, binR, intOp, loadR, bad, bound, lenV, srcV, Ob.read, V.plain, V.one, V.cells, fillV, setMany, zeros, TK.agg, Sub, cellRes, loadV, bindE, Nat.reduceAdd, Nat.reduceEqDiff, Nat.reduceLT, Nat.reduceLeDiff, Nat.reduceMul, Nat.reduceSub, Nat.reduceDiv, Nat.reduceMod, Nat.reduceBEq, Nat.reduceBNe, reduceIte, reduceCtorEq, Int.reduceToNat, Int.reduceLT, Int.reduceLE, Int.reduceAdd, Int.reduceSub, Int.reduceMul, Int.reduceNeg, Int.reduceEq, Int.reduceNe, D_G, D_P, List.lookup, tys, intsV_len]
      exact Post.r1 rfl ⟨_, _, rfl, .keep rfl, by simp [h']⟩
    · have hl : R.length = R'.length := by simp at h2; omega
      simp -implicitDefEqProofs only [s_s, argEnv, PastOK, PendOK, sel, isE, isSp, baseOK, opR, opnd, opnds, opndL, ofConst, look, putE, dstOK, guardL, binR, intOp, loadR, bad, bound, lenV, srcV, Ob.read, V.plain, V.one, V.cells, fillV, setMany, zeros, TK.agg, Sub, cellRes, loadV, bindE, Nat.reduceAdd, Nat.reduceEqDiff, Nat.reduceLT, Nat.reduceLeDiff, Nat.reduceMul, Nat.reduceSub, Nat.reduceDiv, Nat.reduceMod, Nat.reduceBEq, Nat.reduceBNe, reduceIte, reduceCtorEq, Int.reduceToNat, Int.reduceLT, Int.reduceLE, Int.reduceAdd, Int.reduceSub, Int.reduceMul, Int.reduceNeg, Int.reduceEq, Int.reduceNe, D_G, D_P, List.lookup, tys, intsV_len]
      refine WP.loopF (ι := Nat) (fun i => [(2, .ptr st.length 0 0), (3, .ptr (st.length + 1) 0 0), (5, .int .i64 i)]) (fun _ => st ++ [.cells 0 [.int .i64 S, .lst 1 (R.map rowV)], .cells 0 [.int .i64 S', .lst 1 (R'.map rowV)]]) (fun i => i ≤ R.length ∧ ∀ j, j < i → R[j]? = R'[j]?) (fun i => R.length - i) 0 ⟨by omega, fun j hj => by omega⟩ (by simp -implicitDefEqProofs only [s_s, argEnv, PastOK, PendOK, sel, isE, isSp, baseOK, opR, opnd, opnds, opndL, ofConst, look, putE, dstOK, guardL, binR, intOp, loadR, bad, bound, lenV, srcV, Ob.read, V.plain, V.one, V.cells, fillV, setMany, zeros, TK.agg, Sub, cellRes, loadV, bindE, Nat.reduceAdd, Nat.reduceEqDiff, Nat.reduceLT, Nat.reduceLeDiff, Nat.reduceMul, Nat.reduceSub, Nat.reduceDiv, Nat.reduceMod, Nat.reduceBEq, Nat.reduceBNe, reduceIte, reduceCtorEq, Int.reduceToNat, Int.reduceLT, Int.reduceLE, Int.reduceAdd, Int.reduceSub, Int.reduceMul, Int.reduceNeg, Int.reduceEq, Int.reduceNe, D_G, D_P, List.lookup, tys, intsV_len]; simp) rfl ?_
      rintro i ⟨hi, heq⟩
      simp -implicitDefEqProofs only [s_s, argEnv, PastOK, PendOK, sel, isE, isSp, baseOK, opR, opnd, opnds, opndL, ofConst, look, putE, dstOK, guardL, binR, intOp, loadR, bad, bound, lenV, srcV, Ob.read, V.plain, V.one, V.cells, fillV, setMany, zeros, TK.agg, Sub, cellRes, loadV, bindE, Nat.reduceAdd, Nat.reduceEqDiff, Nat.reduceLT, Nat.reduceLeDiff, Nat.reduceMul, Nat.reduceSub, Nat.reduceDiv, Nat.reduceMod, Nat.reduceBEq, Nat.reduceBNe, reduceIte, reduceCtorEq, Int.reduceToNat, Int.reduceLT, Int.reduceLE, Int.reduceAdd, Int.reduceSub, Int.reduceMul, Int.reduceNeg, Int.reduceEq, Int.reduceNe, D_G, D_P, List.lookup, tys, intsV_len]
      refine Br.intro (fun h => ?_) (fun h => ?_)
      · have h' : i < R.length := by simpa using h
        obtain ⟨x, hx⟩ : ∃ x, R[i]? = some x := ⟨_, List.getElem?_eq_getElem h'⟩
        obtain ⟨y, hy⟩ : ∃ y, R'[i]? = some y := ⟨_, List.getElem?_eq_getElem (by omega)⟩
        have hvx : (R.map rowV)[i]? = some (rowV x) := by simp [hx]
        have hvy : (R'.map rowV)[i]? = some (rowV y) := by simp [hy]
        have w2 := wrapI (n := (i : Int) + 1) (by omega) (by omega)
        simp -implicitDefEqProofs only [s_s, argEnv, PastOK, PendOK, sel, isE, isSp, baseOK, opR, opnd, opnds, opndL, ofConst, look, putE, dstOK, guardL, binR, intOp, loadR, bad, bound, lenV, srcV, Ob.read, V.plain, V.one, V.cells, fillV, setMany, zeros, TK.agg, Sub, cellRes, loadV, bindE, Nat.reduceAdd, Nat.reduceEqDiff, Nat.reduceLT, Nat.reduceLeDiff, Nat.reduceMul, Nat.reduceSub, Nat.reduceDiv, Nat.reduceMod, Nat.reduceBEq, Nat.reduceBNe, reduceIte, reduceCtorEq, Int.reduceToNat, Int.reduceLT, Int.reduceLE, Int.reduceAdd, Int.reduceSub, Int.reduceMul, Int.reduceNeg, Int.reduceEq, Int.reduceNe, D_G, D_P, List.lookup, tys, intsV_len]
        refine WP.drawF [(0, 0, 0, [2]), (1, 0, 0, [27]), (0, 0, 0, [5]), (7, 0, 0, [28, 29]), (15, 0, 0, [30]), (0, 0, 0, [3]), (32, 0, 0, [32]), (0, 0, 0, [5]), (224, 0, 0, [33, 34]), (480, 0, 0, [35]), (1023, 0, 1, [31, 36]), (2047, 1, 1, [37])] D_mixed (by decide +kernel) ?_
        simp -implicitDefEqProofs only [s_s, argEnv, PastOK, PendOK, sel, isE, isSp, baseOK, opR, opnd, opnds, opndL, ofConst, look, putE, dstOK, guardL, binR, intOp, loadR, bad, bound, lenV, srcV, Ob.read, V.plain, V.one, V.cells, fillV, setMany, zeros, TK.agg, Sub, cellRes, loadV, bindE, Nat.reduceAdd, Nat.reduceEqDiff, Nat.reduceLT, Nat.reduceLeDiff, Nat.reduceMul, Nat.reduceSub, Nat.reduceDiv, Nat.reduceMod, Nat.reduceBEq, Nat.reduceBNe, reduceIte, reduceCtorEq, Int.reduceToNat, Int.reduceLT, Int.reduceLE, Int.reduceAdd, Int.reduceSub, Int.reduceMul, Int.reduceNeg, Int.reduceEq, Int.reduceNe, D_G, D_P, List.lookup, tys, intsV_len, hvx, hvy]
        refine ⟨by omega, by omega, SpD.call rfl rfl (same_spec x y (by have := hr x (List.mem_of_getElem? hx); omega) _) ?_⟩
        simp -implicitDefEqProofs only [s_s, argEnv, PastOK, PendOK, sel, isE, isSp, baseOK, opR, opnd, opnds, opndL, ofConst, look, putE, dstOK, guardL, binR, intOp, loadR, bad, bound, lenV, srcV, Ob.read, V.plain, V.one, V.cells, fillV, setMany, zeros, TK.agg, Sub, cellRes, loadV, bindE, Nat.reduceAdd, Nat.reduceEqDiff, Nat.reduceLT, Nat.reduceLeDiff, Nat.reduceMul, Nat.reduceSub, Nat.reduceDiv, Nat.reduceMod, Nat.reduceBEq, Nat.reduceBNe, reduceIte, reduceCtorEq, Int.reduceToNat, Int.reduceLT, Int.reduceLE, Int.reduceAdd, Int.reduceSub, Int.reduceMul, Int.reduceNeg, Int.reduceEq, Int.reduceNe, D_G, D_P, List.lookup, tys, intsV_len]
        refine Br.intro (fun h2 => ?_) (fun h2 => ?_)
        · have h2' : ¬ x = y := by simpa using h2
          have h' : ¬ R = R' := by rintro rfl; rw [hx] at hy; cases hy; exact h2' rfl
          simp -implicitDefEqProofs only [s_s, argEnv, PastOK, PendOK, sel, isE, isSp, baseOK, opR, opnd, opnds, opndL, ofConst, look, putE, dstOK, guardL, binR, intOp, loadR, bad, bound, lenV, srcV, Ob.read, V.plain, V.one, V.cells, fillV, setMany, zeros, TK.agg, Sub, cellRes, loadV, bindE, Nat.reduceAdd, Nat.reduceEqDiff, Nat.reduceLT, Nat.reduceLeDiff, Nat.reduceMul, Nat.reduceSub, Nat.reduceDiv, Nat.reduceMod, Nat.reduceBEq, Nat.reduceBNe, reduceIte, reduceCtorEq, Int.reduceToNat, Int.reduceLT, Int.reduceLE, Int.reduceAdd, Int.reduceSub, Int.reduceMul, Int.reduceNeg, Int.reduceEq, Int.reduceNe, D_G, D_P, List.lookup, tys, intsV_len]
          exact Post.r1 rfl ⟨_, _, rfl, .keep rfl, by simp [h']⟩
        · have h2' : x = y := by simpa using h2
          simp -implicitDefEqProofs only [s_s, argEnv, PastOK, PendOK, sel, isE, isSp, baseOK, opR, opnd, opnds, opndL, ofConst, look, putE, dstOK, guardL, binR, intOp, loadR, bad, bound, lenV, srcV, Ob.read, V.plain, V.one, V.cells, fillV, setMany, zeros, TK.agg, Sub, cellRes, loadV, bindE, Nat.reduceAdd, Nat.reduceEqDiff, Nat.reduceLT, Nat.reduceLeDiff, Nat.reduceMul, Nat.reduceSub, Nat.reduceDiv, Nat.reduceMod, Nat.reduceBEq, Nat.reduceBNe, reduceIte, reduceCtorEq, Int.reduceToNat, Int.reduceLT, Int.reduceLE, Int.reduceAdd, Int.reduceSub, Int.reduceMul, Int.reduceNeg, Int.reduceEq, Int.reduceNe, D_G, D_P, List.lookup, tys, intsV_len, w2]
          refine Kl.next (i + 1) ⟨by omega, fun j hj => ?_⟩ (by omega) ?_ rfl
          · by_cases e : j = i
            · subst e; rw [hx, hy, h2']
            · exact heq j (by omega)
          · simp -implicitDefEqProofs only [s_s, argEnv, PastOK, PendOK, sel, isE, isSp, baseOK, opR, opnd, opnds, opndL, ofConst, look, putE, dstOK, guardL, binR, intOp, loadR, bad, bound, lenV, srcV, Ob.read, V.plain, V.one, V.cells, fillV, setMany, zeros, TK.agg, Sub, cellRes, loadV, bindE, Nat.reduceAdd, Nat.reduceEqDiff, Nat.reduceLT, Nat.reduceLeDiff, Nat.reduceMul, Nat.reduceSub, Nat.reduceDiv, Nat.reduceMod, Nat.reduceBEq, Nat.reduceBNe, reduceIte, reduceCtorEq, Int.reduceToNat, Int.reduceLT, Int.reduceLE, Int.reduceAdd, Int.reduceSub, Int.reduceMul, Int.reduceNeg, Int.reduceEq, Int.reduceNe, D_G, D_P, List.lookup, tys, intsV_len, Int.natCast_add, Int.natCast_one]
      · have hi' : i = R.length := by have : ¬ i < R.length := by simpa using h
                                      omega
        subst hi'
        have h' : R = R' := list_ext_lt hl heq
        simp -implicitDefEqProofs only [s_s, argEnv, PastOK, PendOK, sel, isE, isSp, baseOK, opR, opnd, opnds, opndL, ofConst, look, putE, dstOK, guardL, binR, intOp, loadR, bad, bound, lenV, srcV, Ob.read, V.plain, V.one, V.cells, fillV, setMany, zeros, TK.agg, Sub, cellRes, loadV, bindE, Nat.reduceAdd, Nat.reduceEqDiff, Nat.reduceLT, Nat.reduceLeDiff, Nat.reduceMul, Nat.reduceSub, Nat.reduceDiv, Nat.reduceMod, Nat.reduceBEq, Nat.reduceBNe, reduceIte, reduceCtorEq, Int.reduceToNat, Int.reduceLT, Int.reduceLE, Int.reduceAdd, Int.reduceSub, Int.reduceMul, Int.reduceNeg, Int.reduceEq, Int.reduceNe, D_G, D_P, List.lookup, tys, intsV_len]
        exact Post.r1 rfl ⟨_, _, rfl, .keep rfl, by simp [h', hS]⟩

/-- An array with an error. -/
def gotV (S : Int) (R : List (List Int)) (e : Int) : V := .agg [.int .i64 S, .lst 1 (R.map rowV), .int .i64 e]

theorem Alike_spec (S S' : Int) (R R' : List (List Int)) (e e' : Int) (hR : R.length < 1000) (hr : ∀ r ∈ R, r.length < 1000) (st : St) : VCall D 28 [gotV S R e, gotV S' R' e'] st (fun r st' => r = .bool (decide (e = e' ∧ S = S' ∧ R = R')) ∧ st' = st) := by
  refine VCall.clean ?_
  refine VCall.of_WP (fn := Tryd.f28) (c := _) Tryd.func28 rfl (by decide +kernel) (Nat.le_of_ble_eq_true rfl) ?_
  refine wpF_sound ?_
  simp -implicitDefEqProofs only [s_s, argEnv, PastOK, PendOK, sel, isE, isSp, baseOK, opR, opnd, opnds, opndL, ofConst, look, putE, dstOK, guardL, binR, intOp, loadR, bad, bound, lenV, srcV, Ob.read, V.plain, V.one, V.cells, fillV, setMany, zeros, TK.agg, Sub, cellRes, loadV, bindE, Nat.reduceAdd, Nat.reduceEqDiff, Nat.reduceLT, Nat.reduceLeDiff, Nat.reduceMul, Nat.reduceSub, Nat.reduceDiv, Nat.reduceMod, Nat.reduceBEq, Nat.reduceBNe, reduceIte, reduceCtorEq, Int.reduceToNat, Int.reduceLT, Int.reduceLE, Int.reduceAdd, Int.reduceSub, Int.reduceMul, Int.reduceNeg, Int.reduceEq, Int.reduceNe, D_G, D_P, List.lookup, tys, intsV_len, Tryd.ntmps28, Tryd.f28, gotV]
  refine OpsG.intro (fun h => ?_) (fun h => ?_)
  · have h' : e = e' := by simpa using h
    simp -implicitDefEqProofs only [s_s, argEnv, PastOK, PendOK, sel, isE, isSp, baseOK, opR, opnd, opnds, opndL, ofConst, look, putE, dstOK, guardL, binR, intOp, loadR, bad, bound, lenV, srcV, Ob.read, V.plain, V.one, V.cells, fillV, setMany, zeros, TK.agg, Sub, cellRes, loadV, bindE, Nat.reduceAdd, Nat.reduceEqDiff, Nat.reduceLT, Nat.reduceLeDiff, Nat.reduceMul, Nat.reduceSub, Nat.reduceDiv, Nat.reduceMod, Nat.reduceBEq, Nat.reduceBNe, reduceIte, reduceCtorEq, Int.reduceToNat, Int.reduceLT, Int.reduceLE, Int.reduceAdd, Int.reduceSub, Int.reduceMul, Int.reduceNeg, Int.reduceEq, Int.reduceNe, D_G, D_P, List.lookup, tys, intsV_len, h]
    refine Sp.call rfl rfl ?_
    refine (Same_spec S S' R R' hR hr _).mono ?_
    rintro r st' ⟨rfl, rfl⟩
    simp -implicitDefEqProofs only [s_s, argEnv, PastOK, PendOK, sel, isE, isSp, baseOK, opR, opnd, opnds, opndL, ofConst, look, putE, dstOK, guardL, binR, intOp, loadR, bad, bound, lenV, srcV, Ob.read, V.plain, V.one, V.cells, fillV, setMany, zeros, TK.agg, Sub, cellRes, loadV, bindE, Nat.reduceAdd, Nat.reduceEqDiff, Nat.reduceLT, Nat.reduceLeDiff, Nat.reduceMul, Nat.reduceSub, Nat.reduceDiv, Nat.reduceMod, Nat.reduceBEq, Nat.reduceBNe, reduceIte, reduceCtorEq, Int.reduceToNat, Int.reduceLT, Int.reduceLE, Int.reduceAdd, Int.reduceSub, Int.reduceMul, Int.reduceNeg, Int.reduceEq, Int.reduceNe, D_G, D_P, List.lookup, tys, intsV_len, h]
    exact Post.r1 rfl ⟨_, _, rfl, .keep rfl, by simp [h']⟩
  · have h' : ¬ e = e' := by simpa using h
    simp -implicitDefEqProofs only [s_s, argEnv, PastOK, PendOK, sel, isE, isSp, baseOK, opR, opnd, opnds, opndL, ofConst, look, putE, dstOK, guardL, binR, intOp, loadR, bad, bound, lenV, srcV, Ob.read, V.plain, V.one, V.cells, fillV, setMany, zeros, TK.agg, Sub, cellRes, loadV, bindE, Nat.reduceAdd, Nat.reduceEqDiff, Nat.reduceLT, Nat.reduceLeDiff, Nat.reduceMul, Nat.reduceSub, Nat.reduceDiv, Nat.reduceMod, Nat.reduceBEq, Nat.reduceBNe, reduceIte, reduceCtorEq, Int.reduceToNat, Int.reduceLT, Int.reduceLE, Int.reduceAdd, Int.reduceSub, Int.reduceMul, Int.reduceNeg, Int.reduceEq, Int.reduceNe, D_G, D_P, List.lookup, tys, intsV_len, h]
    exact Post.r1 rfl ⟨_, _, rfl, .keep rfl, by simp [h']⟩
end Go.VL
end

/- The array seat: counting rows. -/
section
set_option linter.unusedSimpArgs false
set_option maxRecDepth 4000
namespace Go.VL
open Go Go.Proofs

/-- The entries of a row in some columns. -/
def pick (r cols : List Int) : List Int := cols.map fun c => (r[c.toNat]?).getD 0
/-- In how many rows some columns have some levels. -/
def countN (R : List (List Int)) (cols want : List Int) : Nat := R.countP fun r => decide (pick r cols = want)

theorem take_eq_succ {a b : List Int} {j : Nat} {x y : Int} (ha : a[j]? = some x) (hb : b[j]? = some y) : (a.take (j + 1) = b.take (j + 1)) ↔ (a.take j = b.take j ∧ x = y) := by
  rw [List.take_add_one, List.take_add_one, ha, hb]
  have la := (List.getElem?_eq_some_iff.1 ha).1
  have lb := (List.getElem?_eq_some_iff.1 hb).1
  constructor
  · intro h
    have := List.append_inj h (by simp; omega)
    exact ⟨this.1, by simpa using this.2⟩
  · rintro ⟨h1, rfl⟩; rw [h1]

theorem count_spec (S : Int) (R : List (List Int)) (cols want : List Int) (hRn : R.length < 1000) (hl : cols.length = want.length) (hcl : cols.length < 1000) (hc : ∀ r ∈ R, ∀ c ∈ cols, 0 ≤ c ∧ c < r.length) (st : St) :
    VCall D 15 [arrV S R, rowV cols, rowV want] st (fun v st' => v = .int .i64 (countN R cols want) ∧ st' = st) := by
  refine VCall.clean ?_
  refine VCall.of_WP (fn := Tryd.f15) (c := _) Tryd.func15 rfl (by decide +kernel) (Nat.le_of_ble_eq_true rfl) ?_
  refine wpF_sound ?_
  simp -implicitDefEqProofs only [s_s, argEnv, PastOK, PendOK, sel, isE, isSp, baseOK, opR, opnd, opnds, opndL, ofConst, look, putE, dstOK, guardL, binR, intOp, loadR, bad, bound, lenV, srcV, Ob.read, V.plain, V.one, V.cells, fillV, setMany, zeros, TK.agg, Sub, cellRes, loadV, bindE, Nat.reduceAdd, Nat.reduceEqDiff, Nat.reduceLT, Nat.reduceLeDiff, Nat.reduceMul, Nat.reduceSub, Nat.reduceDiv, Nat.reduceMod, Nat.reduceBEq, Nat.reduceBNe, reduceIte, reduceCtorEq, Int.reduceToNat, Int.reduceLT, Int.reduceLE, Int.reduceAdd, Int.reduceSub, Int.reduceMul, Int.reduceNeg, Int.reduceEq, Int.reduceNe, D_G, D_P, List.lookup, tys, intsV_len, Tryd.ntmps15, Tryd.f15, arrV, rowV]
  refine WP.loopF (ι := Nat) (fun i => [(1, rowV cols), (2, rowV want), (3, .ptr st.length 0 0), (7, .int .i64 (countN (R.take i) cols want)), (8, .int .i64 i)])
    (fun _ => st ++ [.cells 0 [.int .i64 S, .lst 1 (R.map rowV)]]) (fun i => i ≤ R.length) (fun i => R.length - i) 0 (by omega) (by simp -implicitDefEqProofs only [s_s, argEnv, PastOK, PendOK, sel, isE, isSp, baseOK, opR, opnd, opnds, opndL, ofConst, look, putE, dstOK, guardL, binR, intOp, loadR, bad, bound, lenV, srcV, Ob.read, V.plain, V.one, V.cells, fillV, setMany, zeros, TK.agg, Sub, cellRes, loadV, bindE, Nat.reduceAdd, Nat.reduceEqDiff, Nat.reduceLT, Nat.reduceLeDiff, Nat.reduceMul, Nat.reduceSub, Nat.reduceDiv, Nat.reduceMod, Nat.reduceBEq, Nat.reduceBNe, reduceIte, reduceCtorEq, Int.reduceToNat, Int.reduceLT, Int.reduceLE, Int.reduceAdd, Int.reduceSub, Int.reduceMul, Int.reduceNeg, Int.reduceEq, Int.reduceNe, D_G, D_P, List.lookup, tys, intsV_len, rowV]; simp [countN]) rfl ?_
  intro i hi
  have hcn : countN (R.take i) cols want ≤ 1000 := by
    have h1 : countN (R.take i) cols want ≤ (R.take i).length := List.countP_le_length
    simp at h1; omega
  simp -implicitDefEqProofs only [s_s, argEnv, PastOK, PendOK, sel, isE, isSp, baseOK, opR, opnd, opnds, opndL, ofConst, look, putE, dstOK, guardL, binR, intOp, loadR, bad, bound, lenV, srcV, Ob.read, V.plain, V.one, V.cells, fillV, setMany, zeros, TK.agg, Sub, cellRes, loadV, bindE, Nat.reduceAdd, Nat.reduceEqDiff, Nat.reduceLT, Nat.reduceLeDiff, Nat.reduceMul, Nat.reduceSub, Nat.reduceDiv, Nat.reduceMod, Nat.reduceBEq, Nat.reduceBNe, reduceIte, reduceCtorEq, Int.reduceToNat, Int.reduceLT, Int.reduceLE, Int.reduceAdd, Int.reduceSub, Int.reduceMul, Int.reduceNeg, Int.reduceEq, Int.reduceNe, D_G, D_P, List.lookup, tys, intsV_len, rowV]
  refine Br.intro (fun h => ?_) (fun h => ?_)
  · have h' : i < R.length := by simpa using h
    obtain ⟨r, hr⟩ : ∃ r, R[i]? = some r := ⟨_, List.getElem?_eq_getElem h'⟩
    have hvr : (R.map rowV)[i]? = some (rowV r) := by simp [hr]
    have hrm := List.mem_of_getElem? hr
    have w2 := wrapI (n := (i : Int) + 1) (by omega) (by omega)
    have w3 := wrapI (n := (countN (R.take i) cols want : Int) + 1) (by omega) (by omega)
    have hstep : countN (R.take (i + 1)) cols want = countN (R.take i) cols want + if pick r cols = want then 1 else 0 := by
      rw [List.take_add_one, hr]; simp [countN, List.countP_append, List.countP_cons]
    simp -implicitDefEqProofs only [s_s, argEnv, PastOK, PendOK, sel, isE, isSp, baseOK, opR, opnd, opnds, opndL, ofConst, look, putE, dstOK, guardL, binR, intOp, loadR, bad, bound, lenV, srcV, Ob.read, V.plain, V.one, V.cells, fillV, setMany, zeros, TK.agg, Sub, cellRes, loadV, bindE, Nat.reduceAdd, Nat.reduceEqDiff, Nat.reduceLT, Nat.reduceLeDiff, Nat.reduceMul, Nat.reduceSub, Nat.reduceDiv, Nat.reduceMod, Nat.reduceBEq, Nat.reduceBNe, reduceIte, reduceCtorEq, Int.reduceToNat, Int.reduceLT, Int.reduceLE, Int.reduceAdd, Int.reduceSub, Int.reduceMul, Int.reduceNeg, Int.reduceEq, Int.reduceNe, D_G, D_P, List.lookup, tys, intsV_len]
    refine WP.loopF (ι := Nat) (fun j => [(1, rowV cols), (2, rowV want), (3, .ptr st.length 0 0), (7, .int .i64 (countN (R.take i) cols want)), (8, .int .i64 i), (9, .bool (decide ((pick r cols).take j = want.take j))), (10, .int .i64 j)])
      (fun _ => st ++ [.cells 0 [.int .i64 S, .lst 1 (R.map rowV)]]) (fun j => j ≤ cols.length) (fun j => cols.length - j) 0 (by omega) (by simp -implicitDefEqProofs only [s_s, argEnv, PastOK, PendOK, sel, isE, isSp, baseOK, opR, opnd, opnds, opndL, ofConst, look, putE, dstOK, guardL, binR, intOp, loadR, bad, bound, lenV, srcV, Ob.read, V.plain, V.one, V.cells, fillV, setMany, zeros, TK.agg, Sub, cellRes, loadV, bindE, Nat.reduceAdd, Nat.reduceEqDiff, Nat.reduceLT, Nat.reduceLeDiff, Nat.reduceMul, Nat.reduceSub, Nat.reduceDiv, Nat.reduceMod, Nat.reduceBEq, Nat.reduceBNe, reduceIte, reduceCtorEq, Int.reduceToNat, Int.reduceLT, Int.reduceLE, Int.reduceAdd, Int.reduceSub, Int.reduceMul, Int.reduceNeg, Int.reduceEq, Int.reduceNe, D_G, D_P, List.lookup, tys, intsV_len, rowV]; simp) rfl ?_
    intro j hj
    simp -implicitDefEqProofs only [s_s, argEnv, PastOK, PendOK, sel, isE, isSp, baseOK, opR, opnd, opnds, opndL, ofConst, look, putE, dstOK, guardL, binR, intOp, loadR, bad, bound, lenV, srcV, Ob.read, V.plain, V.one, V.cells, fillV, setMany, zeros, TK.agg, Sub, cellRes, loadV, bindE, Nat.reduceAdd, Nat.reduceEqDiff, Nat.reduceLT, Nat.reduceLeDiff, Nat.reduceMul, Nat.reduceSub, Nat.reduceDiv, Nat.reduceMod, Nat.reduceBEq, Nat.reduceBNe, reduceIte, reduceCtorEq, Int.reduceToNat, Int.reduceLT, Int.reduceLE, Int.reduceAdd, Int.reduceSub, Int.reduceMul, Int.reduceNeg, Int.reduceEq, Int.reduceNe, D_G, D_P, List.lookup, tys, intsV_len, rowV]
    refine Br.intro (fun h => ?_) (fun h => ?_)
    · have h' : j < cols.length := by simpa using h
      obtain ⟨c, hcj⟩ : ∃ c, cols[j]? = some c := ⟨_, List.getElem?_eq_getElem h'⟩
      obtain ⟨y, hy⟩ : ∃ y, want[j]? = some y := ⟨_, List.getElem?_eq_getElem (by omega)⟩
      obtain ⟨c0, c1⟩ := hc r hrm c (List.mem_of_getElem? hcj)
      obtain ⟨n, rfl⟩ := Int.eq_ofNat_of_zero_le c0
      obtain ⟨x, hx⟩ : ∃ x, r[n]? = some x := ⟨_, List.getElem?_eq_getElem (by omega)⟩
      have hvc : (intsV cols)[j]? = some (.int .i64 n) := by simp [intsV, hcj]
      have hvy : (intsV want)[j]? = some (.int .i64 y) := by simp [intsV, hy]
      have hvx : (intsV r)[n]? = some (.int .i64 x) := by simp [intsV, hx]
      have w4 := wrapI (n := (j : Int) + 1) (by omega) (by omega)
      have hpj : (pick r cols)[j]? = some x := by simp [pick, hcj, hx]
      have hts := take_eq_succ hpj hy
      simp -implicitDefEqProofs only [s_s, argEnv, PastOK, PendOK, sel, isE, isSp, baseOK, opR, opnd, opnds, opndL, ofConst, look, putE, dstOK, guardL, binR, intOp, loadR, bad, bound, lenV, srcV, Ob.read, V.plain, V.one, V.cells, fillV, setMany, zeros, TK.agg, Sub, cellRes, loadV, bindE, Nat.reduceAdd, Nat.reduceEqDiff, Nat.reduceLT, Nat.reduceLeDiff, Nat.reduceMul, Nat.reduceSub, Nat.reduceDiv, Nat.reduceMod, Nat.reduceBEq, Nat.reduceBNe, reduceIte, reduceCtorEq, Int.reduceToNat, Int.reduceLT, Int.reduceLE, Int.reduceAdd, Int.reduceSub, Int.reduceMul, Int.reduceNeg, Int.reduceEq, Int.reduceNe, D_G, D_P, List.lookup, tys, intsV_len]
      refine WP.drawF [(0, 0, 0, [9]), (1, 0, 0, [24]), (3, 0, 0, [3, 25]), (7, 0, 0, [26, 25]), (3, 0, 0, [8, 25]), (31, 0, 0, [27, 28, 25]), (63, 0, 0, [29, 25]), (3, 0, 0, [1, 25]), (3, 0, 0, [10, 25]), (387, 0, 0, [31, 32, 25]), (899, 0, 0, [33, 25]), (2047, 0, 0, [30, 34, 25]), (4095, 0, 0, [35, 25]), (3, 0, 0, [2, 25]), (3, 0, 0, [10, 25]), (24579, 0, 0, [37, 38, 25]), (57347, 0, 0, [39, 25]), (131071, 0, 0, [36, 40, 25]), (262143, 0, 0, [25, 41]), (524287, 0, 0, [42])] D_mixed (by decide +kernel) ?_
      simp -implicitDefEqProofs only [s_s, argEnv, PastOK, PendOK, sel, isE, isSp, baseOK, opR, opnd, opnds, opndL, ofConst, look, putE, dstOK, guardL, binR, intOp, loadR, bad, bound, lenV, srcV, Ob.read, V.plain, V.one, V.cells, fillV, setMany, zeros, TK.agg, Sub, cellRes, loadV, bindE, Nat.reduceAdd, Nat.reduceEqDiff, Nat.reduceLT, Nat.reduceLeDiff, Nat.reduceMul, Nat.reduceSub, Nat.reduceDiv, Nat.reduceMod, Nat.reduceBEq, Nat.reduceBNe, reduceIte, reduceCtorEq, Int.reduceToNat, Int.reduceLT, Int.reduceLE, Int.reduceAdd, Int.reduceSub, Int.reduceMul, Int.reduceNeg, Int.reduceEq, Int.reduceNe, D_G, D_P, List.lookup, tys, intsV_len]
      refine DrawG.intro (fun h2 => ?_) (fun h2 => ?_)
      · have h3 : (pick r cols).take j = want.take j := by simpa using h2
        simp -implicitDefEqProofs only [s_s, argEnv, PastOK, PendOK, sel, isE, isSp, baseOK, opR, opnd, opnds, opndL, ofConst, look, putE, dstOK, guardL, binR, intOp, loadR, bad, bound, lenV, srcV, Ob.read, V.plain, V.one, V.cells, fillV, setMany, zeros, TK.agg, Sub, cellRes, loadV, bindE, Nat.reduceAdd, Nat.reduceEqDiff, Nat.reduceLT, Nat.reduceLeDiff, Nat.reduceMul, Nat.reduceSub, Nat.reduceDiv, Nat.reduceMod, Nat.reduceBEq, Nat.reduceBNe, reduceIte, reduceCtorEq, Int.reduceToNat, Int.reduceLT, Int.reduceLE, Int.reduceAdd, Int.reduceSub, Int.reduceMul, Int.reduceNeg, Int.reduceEq, Int.reduceNe, D_G, D_P, List.lookup, tys, intsV_len, h2, hvr, hvc, hvy, hvx, rowV, w4]
        refine ⟨by omega, by omega, by omega, by omega, Kl.next (j + 1) (by omega) (by omega) ?_ rfl⟩
        have h4 : decide ((pick r cols).take (j + 1) = want.take (j + 1)) = decide (x = y) := by
          simp only [hts, h3, true_and]
        simp -implicitDefEqProofs only [s_s, argEnv, PastOK, PendOK, sel, isE, isSp, baseOK, opR, opnd, opnds, opndL, ofConst, look, putE, dstOK, guardL, binR, intOp, loadR, bad, bound, lenV, srcV, Ob.read, V.plain, V.one, V.cells, fillV, setMany, zeros, TK.agg, Sub, cellRes, loadV, bindE, Nat.reduceAdd, Nat.reduceEqDiff, Nat.reduceLT, Nat.reduceLeDiff, Nat.reduceMul, Nat.reduceSub, Nat.reduceDiv, Nat.reduceMod, Nat.reduceBEq, Nat.reduceBNe, reduceIte, reduceCtorEq, Int.reduceToNat, Int.reduceLT, Int.reduceLE, Int.reduceAdd, Int.reduceSub, Int.reduceMul, Int.reduceNeg, Int.reduceEq, Int.reduceNe, D_G, D_P, List.lookup, tys, intsV_len, h4, Int.natCast_add, Int.natCast_one, rowV]
      · have h3 : ¬ (pick r cols).take j = want.take j := by simpa using h2
        simp -implicitDefEqProofs only [s_s, argEnv, PastOK, PendOK, sel, isE, isSp, baseOK, opR, opnd, opnds, opndL, ofConst, look, putE, dstOK, guardL, binR, intOp, loadR, bad, bound, lenV, srcV, Ob.read, V.plain, V.one, V.cells, fillV, setMany, zeros, TK.agg, Sub, cellRes, loadV, bindE, Nat.reduceAdd, Nat.reduceEqDiff, Nat.reduceLT, Nat.reduceLeDiff, Nat.reduceMul, Nat.reduceSub, Nat.reduceDiv, Nat.reduceMod, Nat.reduceBEq, Nat.reduceBNe, reduceIte, reduceCtorEq, Int.reduceToNat, Int.reduceLT, Int.reduceLE, Int.reduceAdd, Int.reduceSub, Int.reduceMul, Int.reduceNeg, Int.reduceEq, Int.reduceNe, D_G, D_P, List.lookup, tys, intsV_len, h2, w4]
        refine Kl.next (j + 1) (by omega) (by omega) ?_ rfl
        have h4 : ¬ (pick r cols).take (j + 1) = want.take (j + 1) := fun e => h3 (hts.1 e).1
        simp -implicitDefEqProofs only [s_s, argEnv, PastOK, PendOK, sel, isE, isSp, baseOK, opR, opnd, opnds, opndL, ofConst, look, putE, dstOK, guardL, binR, intOp, loadR, bad, bound, lenV, srcV, Ob.read, V.plain, V.one, V.cells, fillV, setMany, zeros, TK.agg, Sub, cellRes, loadV, bindE, Nat.reduceAdd, Nat.reduceEqDiff, Nat.reduceLT, Nat.reduceLeDiff, Nat.reduceMul, Nat.reduceSub, Nat.reduceDiv, Nat.reduceMod, Nat.reduceBEq, Nat.reduceBNe, reduceIte, reduceCtorEq, Int.reduceToNat, Int.reduceLT, Int.reduceLE, Int.reduceAdd, Int.reduceSub, Int.reduceMul, Int.reduceNeg, Int.reduceEq, Int.reduceNe, D_G, D_P, List.lookup, tys, intsV_len, h4, Int.natCast_add, Int.natCast_one, rowV]
    · have hj' : j = cols.length := by have : ¬ j < cols.length := by simpa using h
                                       omega
      subst hj'
      have hfull : ((pick r cols).take cols.length = want.take cols.length) = (pick r cols = want) := by
        rw [List.take_of_length_le (by simp [pick]), List.take_of_length_le (by omega)]
      simp -implicitDefEqProofs only [s_s, argEnv, PastOK, PendOK, sel, isE, isSp, baseOK, opR, opnd, opnds, opndL, ofConst, look, putE, dstOK, guardL, binR, intOp, loadR, bad, bound, lenV, srcV, Ob.read, V.plain, V.one, V.cells, fillV, setMany, zeros, TK.agg, Sub, cellRes, loadV, bindE, Nat.reduceAdd, Nat.reduceEqDiff, Nat.reduceLT, Nat.reduceLeDiff, Nat.reduceMul, Nat.reduceSub, Nat.reduceDiv, Nat.reduceMod, Nat.reduceBEq, Nat.reduceBNe, reduceIte, reduceCtorEq, Int.reduceToNat, Int.reduceLT, Int.reduceLE, Int.reduceAdd, Int.reduceSub, Int.reduceMul, Int.reduceNeg, Int.reduceEq, Int.reduceNe, D_G, D_P, List.lookup, tys, intsV_len, hfull]
      refine Br.intro (fun h2 => ?_) (fun h2 => ?_)
      · have h3 : pick r cols = want := by simpa using h2
        simp -implicitDefEqProofs only [s_s, argEnv, PastOK, PendOK, sel, isE, isSp, baseOK, opR, opnd, opnds, opndL, ofConst, look, putE, dstOK, guardL, binR, intOp, loadR, bad, bound, lenV, srcV, Ob.read, V.plain, V.one, V.cells, fillV, setMany, zeros, TK.agg, Sub, cellRes, loadV, bindE, Nat.reduceAdd, Nat.reduceEqDiff, Nat.reduceLT, Nat.reduceLeDiff, Nat.reduceMul, Nat.reduceSub, Nat.reduceDiv, Nat.reduceMod, Nat.reduceBEq, Nat.reduceBNe, reduceIte, reduceCtorEq, Int.reduceToNat, Int.reduceLT, Int.reduceLE, Int.reduceAdd, Int.reduceSub, Int.reduceMul, Int.reduceNeg, Int.reduceEq, Int.reduceNe, D_G, D_P, List.lookup, tys, intsV_len, w2, w3]
        refine Kl.next (i + 1) (by omega) (by omega) ?_ rfl
        rw [hstep, if_pos h3]
        simp -implicitDefEqProofs only [s_s, argEnv, PastOK, PendOK, sel, isE, isSp, baseOK, opR, opnd, opnds, opndL, ofConst, look, putE, dstOK, guardL, binR, intOp, loadR, bad, bound, lenV, srcV, Ob.read, V.plain, V.one, V.cells, fillV, setMany, zeros, TK.agg, Sub, cellRes, loadV, bindE, Nat.reduceAdd, Nat.reduceEqDiff, Nat.reduceLT, Nat.reduceLeDiff, Nat.reduceMul, Nat.reduceSub, Nat.reduceDiv, Nat.reduceMod, Nat.reduceBEq, Nat.reduceBNe, reduceIte, reduceCtorEq, Int.reduceToNat, Int.reduceLT, Int.reduceLE, Int.reduceAdd, Int.reduceSub, Int.reduceMul, Int.reduceNeg, Int.reduceEq, Int.reduceNe, D_G, D_P, List.lookup, tys, intsV_len, Int.natCast_add, Int.natCast_one, rowV]
      · have h3 : ¬ pick r cols = want := by simpa using h2
        simp -implicitDefEqProofs only [s_s, argEnv, PastOK, PendOK, sel, isE, isSp, baseOK, opR, opnd, opnds, opndL, ofConst, look, putE, dstOK, guardL, binR, intOp, loadR, bad, bound, lenV, srcV, Ob.read, V.plain, V.one, V.cells, fillV, setMany, zeros, TK.agg, Sub, cellRes, loadV, bindE, Nat.reduceAdd, Nat.reduceEqDiff, Nat.reduceLT, Nat.reduceLeDiff, Nat.reduceMul, Nat.reduceSub, Nat.reduceDiv, Nat.reduceMod, Nat.reduceBEq, Nat.reduceBNe, reduceIte, reduceCtorEq, Int.reduceToNat, Int.reduceLT, Int.reduceLE, Int.reduceAdd, Int.reduceSub, Int.reduceMul, Int.reduceNeg, Int.reduceEq, Int.reduceNe, D_G, D_P, List.lookup, tys, intsV_len, w2]
        refine Kl.next (i + 1) (by omega) (by omega) ?_ rfl
        rw [hstep, if_neg h3]
        simp -implicitDefEqProofs only [s_s, argEnv, PastOK, PendOK, sel, isE, isSp, baseOK, opR, opnd, opnds, opndL, ofConst, look, putE, dstOK, guardL, binR, intOp, loadR, bad, bound, lenV, srcV, Ob.read, V.plain, V.one, V.cells, fillV, setMany, zeros, TK.agg, Sub, cellRes, loadV, bindE, Nat.reduceAdd, Nat.reduceEqDiff, Nat.reduceLT, Nat.reduceLeDiff, Nat.reduceMul, Nat.reduceSub, Nat.reduceDiv, Nat.reduceMod, Nat.reduceBEq, Nat.reduceBNe, reduceIte, reduceCtorEq, Int.reduceToNat, Int.reduceLT, Int.reduceLE, Int.reduceAdd, Int.reduceSub, Int.reduceMul, Int.reduceNeg, Int.reduceEq, Int.reduceNe, D_G, D_P, List.lookup, tys, intsV_len, Int.natCast_add, Int.natCast_one, rowV]
  · have hi' : i = R.length := by have : ¬ i < R.length := by simpa using h
                                  omega
    subst hi'
    simp -implicitDefEqProofs only [s_s, argEnv, PastOK, PendOK, sel, isE, isSp, baseOK, opR, opnd, opnds, opndL, ofConst, look, putE, dstOK, guardL, binR, intOp, loadR, bad, bound, lenV, srcV, Ob.read, V.plain, V.one, V.cells, fillV, setMany, zeros, TK.agg, Sub, cellRes, loadV, bindE, Nat.reduceAdd, Nat.reduceEqDiff, Nat.reduceLT, Nat.reduceLeDiff, Nat.reduceMul, Nat.reduceSub, Nat.reduceDiv, Nat.reduceMod, Nat.reduceBEq, Nat.reduceBNe, reduceIte, reduceCtorEq, Int.reduceToNat, Int.reduceLT, Int.reduceLE, Int.reduceAdd, Int.reduceSub, Int.reduceMul, Int.reduceNeg, Int.reduceEq, Int.reduceNe, D_G, D_P, List.lookup, tys, intsV_len]
    exact Post.r1 rfl ⟨_, _, rfl, .keep rfl, by rw [List.take_length]⟩
end Go.VL
end

/- The array seat: least and greatest numbers, valid arrays. -/
section
set_option linter.unusedSimpArgs false
set_option maxRecDepth 4000
namespace Go.VL
open Go Go.Proofs

def minI (a b : Int) : Int := if b < a then b else a
def maxI (a b : Int) : Int := if b > a then b else a
def minL (l : List Int) : Int := (l.drop 1).foldl minI ((l[0]?).getD 0)
def maxL (l : List Int) : Int := (l.drop 1).foldl maxI ((l[0]?).getD 0)

theorem fold_take {f : Int → Int → Int} {l : List Int} {i : Nat} {x a : Int} (h : l[i + 1]? = some x) : ((l.take (i + 2)).drop 1).foldl f a = f (((l.take (i + 1)).drop 1).foldl f a) x := by
  have : l.take (i + 2) = l.take (i + 1) ++ [x] := by rw [List.take_add_one, h]; rfl
  rw [this, List.drop_append_of_le_length (by have := (List.getElem?_eq_some_iff.1 h).1; simp; omega), List.foldl_append]
  rfl

theorem Min_spec (l : List Int) (h0 : 0 < l.length) (hn : l.length < 1000) (st : St) : VCall D 42 [rowV l] st (fun r st' => r = .int .i64 (minL l) ∧ st' = st) := by
  obtain ⟨x0, hx0⟩ : ∃ x, l[0]? = some x := ⟨_, List.getElem?_eq_getElem h0⟩
  have hv0 : (intsV l)[0]? = some (.int .i64 x0) := by simp [intsV, hx0]
  have hlt : decide ((l.length : Int) < 1) = false := by simp; omega
  refine VCall.of_WP (fn := Tryd.f42) (c := _) Tryd.func42 rfl (by decide +kernel) (Nat.le_of_ble_eq_true rfl) ?_
  refine wpF_sound ?_
  simp -implicitDefEqProofs only [s_s, argEnv, PastOK, PendOK, sel, isE, isSp, baseOK, opR, opnd, opnds, opndL, ofConst, look, putE, dstOK, guardL, binR, intOp, loadR, bad, bound, lenV, srcV, Ob.read, V.plain, V.one, V.cells, fillV, setMany, zeros, TK.agg, Sub, cellRes, loadV, bindE, Nat.reduceAdd, Nat.reduceEqDiff, Nat.reduceLT, Nat.reduceLeDiff, Nat.reduceMul, Nat.reduceSub, Nat.reduceDiv, Nat.reduceMod, Nat.reduceBEq, Nat.reduceBNe, reduceIte, reduceCtorEq, Int.reduceToNat, Int.reduceLT, Int.reduceLE, Int.reduceAdd, Int.reduceSub, Int.reduceMul, Int.reduceNeg, Int.reduceEq, Int.reduceNe, D_G, D_P, List.lookup, tys, intsV_len, Tryd.ntmps42, Tryd.f42, rowV, hv0, hlt]
  refine ⟨by omega, ?_⟩
  refine WP.loopF (ι := Nat) (fun i => [(0, rowV l), (3, .int .i64 (((l.take (i + 1)).drop 1).foldl minI x0)), (4, .int .i64 ((i + 1 : Nat) : Int))]) (fun _ => st) (fun i => i + 1 ≤ l.length) (fun i => l.length - i) 0 (by omega) (by simp -implicitDefEqProofs only [s_s, argEnv, PastOK, PendOK, sel, isE, isSp, baseOK, opR, opnd, opnds, opndL, ofConst, look, putE, dstOK, guardL, binR, intOp, loadR, bad, bound, lenV, srcV, Ob.read, V.plain, V.one, V.cells, fillV, setMany, zeros, TK.agg, Sub, cellRes, loadV, bindE, Nat.reduceAdd, Nat.reduceEqDiff, Nat.reduceLT, Nat.reduceLeDiff, Nat.reduceMul, Nat.reduceSub, Nat.reduceDiv, Nat.reduceMod, Nat.reduceBEq, Nat.reduceBNe, reduceIte, reduceCtorEq, Int.reduceToNat, Int.reduceLT, Int.reduceLE, Int.reduceAdd, Int.reduceSub, Int.reduceMul, Int.reduceNeg, Int.reduceEq, Int.reduceNe, D_G, D_P, List.lookup, tys, intsV_len, rowV]; cases l <;> simp) rfl ?_
  intro i hi
  simp -implicitDefEqProofs only [s_s, argEnv, PastOK, PendOK, sel, isE, isSp, baseOK, opR, opnd, opnds, opndL, ofConst, look, putE, dstOK, guardL, binR, intOp, loadR, bad, bound, lenV, srcV, Ob.read, V.plain, V.one, V.cells, fillV, setMany, zeros, TK.agg, Sub, cellRes, loadV, bindE, Nat.reduceAdd, Nat.reduceEqDiff, Nat.reduceLT, Nat.reduceLeDiff, Nat.reduceMul, Nat.reduceSub, Nat.reduceDiv, Nat.reduceMod, Nat.reduceBEq, Nat.reduceBNe, reduceIte, reduceCtorEq, Int.reduceToNat, Int.reduceLT, Int.reduceLE, Int.reduceAdd, Int.reduceSub, Int.reduceMul, Int.reduceNeg, Int.reduceEq, Int.reduceNe, D_G, D_P, List.lookup, tys, intsV_len, rowV]
  refine Br.intro (fun h => ?_) (fun h => ?_)
  · have h' : i + 1 < l.length := by have := of_decide_eq_true h; omega
    obtain ⟨x, hx⟩ : ∃ x, l[i + 1]? = some x := ⟨_, List.getElem?_eq_getElem h'⟩
    have hv : (intsV l)[i + 1]? = some (.int .i64 x) := by simp [intsV, hx]
    have w := wrapI (n := ((i + 1 : Nat) : Int) + 1) (by omega) (by omega)
    simp -implicitDefEqProofs only [s_s, argEnv, PastOK, PendOK, sel, isE, isSp, baseOK, opR, opnd, opnds, opndL, ofConst, look, putE, dstOK, guardL, binR, intOp, loadR, bad, bound, lenV, srcV, Ob.read, V.plain, V.one, V.cells, fillV, setMany, zeros, TK.agg, Sub, cellRes, loadV, bindE, Nat.reduceAdd, Nat.reduceEqDiff, Nat.reduceLT, Nat.reduceLeDiff, Nat.reduceMul, Nat.reduceSub, Nat.reduceDiv, Nat.reduceMod, Nat.reduceBEq, Nat.reduceBNe, reduceIte, reduceCtorEq, Int.reduceToNat, Int.reduceLT, Int.reduceLE, Int.reduceAdd, Int.reduceSub, Int.reduceMul, Int.reduceNeg, Int.reduceEq, Int.reduceNe, D_G, D_P, List.lookup, tys, intsV_len, hv, w]
    refine ⟨by omega, Kl.next (i + 1) (by omega) (by omega) ?_ rfl⟩
    rw [fold_take hx]
    simp -implicitDefEqProofs only [s_s, argEnv, PastOK, PendOK, sel, isE, isSp, baseOK, opR, opnd, opnds, opndL, ofConst, look, putE, dstOK, guardL, binR, intOp, loadR, bad, bound, lenV, srcV, Ob.read, V.plain, V.one, V.cells, fillV, setMany, zeros, TK.agg, Sub, cellRes, loadV, bindE, Nat.reduceAdd, Nat.reduceEqDiff, Nat.reduceLT, Nat.reduceLeDiff, Nat.reduceMul, Nat.reduceSub, Nat.reduceDiv, Nat.reduceMod, Nat.reduceBEq, Nat.reduceBNe, reduceIte, reduceCtorEq, Int.reduceToNat, Int.reduceLT, Int.reduceLE, Int.reduceAdd, Int.reduceSub, Int.reduceMul, Int.reduceNeg, Int.reduceEq, Int.reduceNe, D_G, D_P, List.lookup, tys, intsV_len, minI, rowV, Int.natCast_add, Int.natCast_one]
  · have hi' : i + 1 = l.length := by have := of_decide_eq_false h; omega
    simp -implicitDefEqProofs only [s_s, argEnv, PastOK, PendOK, sel, isE, isSp, baseOK, opR, opnd, opnds, opndL, ofConst, look, putE, dstOK, guardL, binR, intOp, loadR, bad, bound, lenV, srcV, Ob.read, V.plain, V.one, V.cells, fillV, setMany, zeros, TK.agg, Sub, cellRes, loadV, bindE, Nat.reduceAdd, Nat.reduceEqDiff, Nat.reduceLT, Nat.reduceLeDiff, Nat.reduceMul, Nat.reduceSub, Nat.reduceDiv, Nat.reduceMod, Nat.reduceBEq, Nat.reduceBNe, reduceIte, reduceCtorEq, Int.reduceToNat, Int.reduceLT, Int.reduceLE, Int.reduceAdd, Int.reduceSub, Int.reduceMul, Int.reduceNeg, Int.reduceEq, Int.reduceNe, D_G, D_P, List.lookup, tys, intsV_len]
    exact Post.r1 rfl ⟨by simp [minL, hx0, hi'], rfl⟩

theorem Max_spec (l : List Int) (h0 : 0 < l.length) (hn : l.length < 1000) (st : St) : VCall D 43 [rowV l] st (fun r st' => r = .int .i64 (maxL l) ∧ st' = st) := by
  obtain ⟨x0, hx0⟩ : ∃ x, l[0]? = some x := ⟨_, List.getElem?_eq_getElem h0⟩
  have hv0 : (intsV l)[0]? = some (.int .i64 x0) := by simp [intsV, hx0]
  have hlt : decide ((l.length : Int) < 1) = false := by simp; omega
  refine VCall.of_WP (fn := Tryd.f43) (c := _) Tryd.func43 rfl (by decide +kernel) (Nat.le_of_ble_eq_true rfl) ?_
  refine wpF_sound ?_
  simp -implicitDefEqProofs only [s_s, argEnv, PastOK, PendOK, sel, isE, isSp, baseOK, opR, opnd, opnds, opndL, ofConst, look, putE, dstOK, guardL, binR, intOp, loadR, bad, bound, lenV, srcV, Ob.read, V.plain, V.one, V.cells, fillV, setMany, zeros, TK.agg, Sub, cellRes, loadV, bindE, Nat.reduceAdd, Nat.reduceEqDiff, Nat.reduceLT, Nat.reduceLeDiff, Nat.reduceMul, Nat.reduceSub, Nat.reduceDiv, Nat.reduceMod, Nat.reduceBEq, Nat.reduceBNe, reduceIte, reduceCtorEq, Int.reduceToNat, Int.reduceLT, Int.reduceLE, Int.reduceAdd, Int.reduceSub, Int.reduceMul, Int.reduceNeg, Int.reduceEq, Int.reduceNe, D_G, D_P, List.lookup, tys, intsV_len, Tryd.ntmps43, Tryd.f43, rowV, hv0, hlt]
  refine ⟨by omega, ?_⟩
  refine WP.loopF (ι := Nat) (fun i => [(0, rowV l), (3, .int .i64 (((l.take (i + 1)).drop 1).foldl maxI x0)), (4, .int .i64 ((i + 1 : Nat) : Int))]) (fun _ => st) (fun i => i + 1 ≤ l.length) (fun i => l.length - i) 0 (by omega) (by simp -implicitDefEqProofs only [s_s, argEnv, PastOK, PendOK, sel, isE, isSp, baseOK, opR, opnd, opnds, opndL, ofConst, look, putE, dstOK, guardL, binR, intOp, loadR, bad, bound, lenV, srcV, Ob.read, V.plain, V.one, V.cells, fillV, setMany, zeros, TK.agg, Sub, cellRes, loadV, bindE, Nat.reduceAdd, Nat.reduceEqDiff, Nat.reduceLT, Nat.reduceLeDiff, Nat.reduceMul, Nat.reduceSub, Nat.reduceDiv, Nat.reduceMod, Nat.reduceBEq, Nat.reduceBNe, reduceIte, reduceCtorEq, Int.reduceToNat, Int.reduceLT, Int.reduceLE, Int.reduceAdd, Int.reduceSub, Int.reduceMul, Int.reduceNeg, Int.reduceEq, Int.reduceNe, D_G, D_P, List.lookup, tys, intsV_len, rowV]; cases l <;> simp) rfl ?_
  intro i hi
  simp -implicitDefEqProofs only [s_s, argEnv, PastOK, PendOK, sel, isE, isSp, baseOK, opR, opnd, opnds, opndL, ofConst, look, putE, dstOK, guardL, binR, intOp, loadR, bad, bound, lenV, srcV, Ob.read, V.plain, V.one, V.cells, fillV, setMany, zeros, TK.agg, Sub, cellRes, loadV, bindE, Nat.reduceAdd, Nat.reduceEqDiff, Nat.reduceLT, Nat.reduceLeDiff, Nat.reduceMul, Nat.reduceSub, Nat.reduceDiv, Nat.reduceMod, Nat.reduceBEq, Nat.reduceBNe, reduceIte, reduceCtorEq, Int.reduceToNat, Int.reduceLT, Int.reduceLE, Int.reduceAdd, Int.reduceSub, Int.reduceMul, Int.reduceNeg, Int.reduceEq, Int.reduceNe, D_G, D_P, List.lookup, tys, intsV_len, rowV]
  refine Br.intro (fun h => ?_) (fun h => ?_)
  · have h' : i + 1 < l.length := by have := of_decide_eq_true h; omega
    obtain ⟨x, hx⟩ : ∃ x, l[i + 1]? = some x := ⟨_, List.getElem?_eq_getElem h'⟩
    have hv : (intsV l)[i + 1]? = some (.int .i64 x) := by simp [intsV, hx]
    have w := wrapI (n := ((i + 1 : Nat) : Int) + 1) (by omega) (by omega)
    simp -implicitDefEqProofs only [s_s, argEnv, PastOK, PendOK, sel, isE, isSp, baseOK, opR, opnd, opnds, opndL, ofConst, look, putE, dstOK, guardL, binR, intOp, loadR, bad, bound, lenV, srcV, Ob.read, V.plain, V.one, V.cells, fillV, setMany, zeros, TK.agg, Sub, cellRes, loadV, bindE, Nat.reduceAdd, Nat.reduceEqDiff, Nat.reduceLT, Nat.reduceLeDiff, Nat.reduceMul, Nat.reduceSub, Nat.reduceDiv, Nat.reduceMod, Nat.reduceBEq, Nat.reduceBNe, reduceIte, reduceCtorEq, Int.reduceToNat, Int.reduceLT, Int.reduceLE, Int.reduceAdd, Int.reduceSub, Int.reduceMul, Int.reduceNeg, Int.reduceEq, Int.reduceNe, D_G, D_P, List.lookup, tys, intsV_len, hv, w]
    refine ⟨by omega, Kl.next (i + 1) (by omega) (by omega) ?_ rfl⟩
    rw [fold_take hx]
    simp -implicitDefEqProofs only [s_s, argEnv, PastOK, PendOK, sel, isE, isSp, baseOK, opR, opnd, opnds, opndL, ofConst, look, putE, dstOK, guardL, binR, intOp, loadR, bad, bound, lenV, srcV, Ob.read, V.plain, V.one, V.cells, fillV, setMany, zeros, TK.agg, Sub, cellRes, loadV, bindE, Nat.reduceAdd, Nat.reduceEqDiff, Nat.reduceLT, Nat.reduceLeDiff, Nat.reduceMul, Nat.reduceSub, Nat.reduceDiv, Nat.reduceMod, Nat.reduceBEq, Nat.reduceBNe, reduceIte, reduceCtorEq, Int.reduceToNat, Int.reduceLT, Int.reduceLE, Int.reduceAdd, Int.reduceSub, Int.reduceMul, Int.reduceNeg, Int.reduceEq, Int.reduceNe, D_G, D_P, List.lookup, tys, intsV_len, maxI, rowV, Int.natCast_add, Int.natCast_one]
  · have hi' : i + 1 = l.length := by have := of_decide_eq_false h; omega
    simp -implicitDefEqProofs only [s_s, argEnv, PastOK, PendOK, sel, isE, isSp, baseOK, opR, opnd, opnds, opndL, ofConst, look, putE, dstOK, guardL, binR, intOp, loadR, bad, bound, lenV, srcV, Ob.read, V.plain, V.one, V.cells, fillV, setMany, zeros, TK.agg, Sub, cellRes, loadV, bindE, Nat.reduceAdd, Nat.reduceEqDiff, Nat.reduceLT, Nat.reduceLeDiff, Nat.reduceMul, Nat.reduceSub, Nat.reduceDiv, Nat.reduceMod, Nat.reduceBEq, Nat.reduceBNe, reduceIte, reduceCtorEq, Int.reduceToNat, Int.reduceLT, Int.reduceLE, Int.reduceAdd, Int.reduceSub, Int.reduceMul, Int.reduceNeg, Int.reduceEq, Int.reduceNe, D_G, D_P, List.lookup, tys, intsV_len]
    exact Post.r1 rfl ⟨by simp [maxL, hx0, hi'], rfl⟩

theorem fold_in {f : Int → Int → Int} (hf : ∀ a b, f a b = a ∨ f a b = b) : ∀ (l : List Int) (a : Int), l.foldl f a = a ∨ l.foldl f a ∈ l
  | [], a => .inl rfl
  | x :: l, a => by
    simp only [List.foldl_cons, List.mem_cons]
    rcases fold_in hf l (f a x) with h | h
    · rcases hf a x with e | e
      · rw [h, e]; exact .inl rfl
      · rw [h, e]; exact .inr (.inl rfl)
    · exact .inr (.inr h)

theorem minL_mem {l : List Int} (h : 0 < l.length) : minL l ∈ l := by
  cases l with
  | nil => simp at h
  | cons x l =>
    simp only [minL, List.drop_succ_cons, List.drop_zero, List.getElem?_cons_zero, Option.getD_some, List.mem_cons]
    exact fold_in (fun a b => by unfold minI; split <;> simp) l x
theorem maxL_mem {l : List Int} (h : 0 < l.length) : maxL l ∈ l := by
  cases l with
  | nil => simp at h
  | cons x l =>
    simp only [maxL, List.drop_succ_cons, List.drop_zero, List.getElem?_cons_zero, Option.getD_some, List.mem_cons]
    exact fold_in (fun a b => by unfold maxI; split <;> simp) l x

theorem Valid_ok (S : Nat) (R : List (List Int)) (k : Nat) (h : ArrOK S R k) (st : St) : VCall D 27 [arrV S R] st (fun r st' => r = .bool true ∧ st' = st) := by
  obtain ⟨r0, hr0⟩ : ∃ r0, R[0]? = some r0 := ⟨_, List.getElem?_eq_getElem h.r1⟩
  have hk0 : r0.length = k := (h.row r0 (List.mem_of_getElem? hr0)).1
  have hv0 : (R.map rowV)[0]? = some (rowV r0) := by simp [hr0]
  have a1 := h.s2
  have a2 := h.s8
  have a3 := h.r1
  have a4 := h.r64
  have a5 := h.k1
  have a6 := h.k8
  have b1 : decide ((S : Int) < 2) = false := by simp; omega
  have b2 : decide ((8 : Int) < S) = false := by simp; omega
  have b3 : decide ((R.length : Int) < 1) = false := by simp; omega
  have b4 : decide ((64 : Int) < R.length) = false := by simp; omega
  have b5 : decide ((k : Int) < 1) = false := by simp; omega
  have b6 : decide ((8 : Int) < k) = false := by simp; omega
  refine VCall.clean ?_
  refine VCall.of_WP (fn := Tryd.f27) (c := _) Tryd.func27 rfl (by decide +kernel) (Nat.le_of_ble_eq_true rfl) ?_
  refine wpF_sound ?_
  simp -implicitDefEqProofs only [s_s, argEnv, PastOK, PendOK, sel, isE, isSp, baseOK, opR, opnd, opnds, opndL, ofConst, look, putE, dstOK, guardL, binR, intOp, loadR, bad, bound, lenV, srcV, Ob.read, V.plain, V.one, V.cells, fillV, setMany, zeros, TK.agg, Sub, cellRes, loadV, bindE, Nat.reduceAdd, Nat.reduceEqDiff, Nat.reduceLT, Nat.reduceLeDiff, Nat.reduceMul, Nat.reduceSub, Nat.reduceDiv, Nat.reduceMod, Nat.reduceBEq, Nat.reduceBNe, reduceIte, reduceCtorEq, Int.reduceToNat, Int.reduceLT, Int.reduceLE, Int.reduceAdd, Int.reduceSub, Int.reduceMul, Int.reduceNeg, Int.reduceEq, Int.reduceNe, D_G, D_P, List.lookup, tys, intsV_len, Tryd.ntmps27, Tryd.f27, arrV, hv0, rowV, hk0, b1, b2, b3, b4, b5, b6]
  refine ⟨by omega, by omega, ?_⟩
  refine WP.loopF (ι := Nat) (fun i => [(1, .ptr st.length 0 0), (42, .lst 1 (R.map rowV)), (43, .int .i64 R.length), (44, .int .i64 i)])
    (fun _ => st ++ [.cells 0 [.int .i64 S, .lst 1 (R.map rowV)]]) (fun i => i ≤ R.length) (fun i => R.length - i) 0 (by omega) (by simp -implicitDefEqProofs only [s_s, argEnv, PastOK, PendOK, sel, isE, isSp, baseOK, opR, opnd, opnds, opndL, ofConst, look, putE, dstOK, guardL, binR, intOp, loadR, bad, bound, lenV, srcV, Ob.read, V.plain, V.one, V.cells, fillV, setMany, zeros, TK.agg, Sub, cellRes, loadV, bindE, Nat.reduceAdd, Nat.reduceEqDiff, Nat.reduceLT, Nat.reduceLeDiff, Nat.reduceMul, Nat.reduceSub, Nat.reduceDiv, Nat.reduceMod, Nat.reduceBEq, Nat.reduceBNe, reduceIte, reduceCtorEq, Int.reduceToNat, Int.reduceLT, Int.reduceLE, Int.reduceAdd, Int.reduceSub, Int.reduceMul, Int.reduceNeg, Int.reduceEq, Int.reduceNe, D_G, D_P, List.lookup, tys, intsV_len]; simp) rfl ?_
  intro i hi
  simp -implicitDefEqProofs only [s_s, argEnv, PastOK, PendOK, sel, isE, isSp, baseOK, opR, opnd, opnds, opndL, ofConst, look, putE, dstOK, guardL, binR, intOp, loadR, bad, bound, lenV, srcV, Ob.read, V.plain, V.one, V.cells, fillV, setMany, zeros, TK.agg, Sub, cellRes, loadV, bindE, Nat.reduceAdd, Nat.reduceEqDiff, Nat.reduceLT, Nat.reduceLeDiff, Nat.reduceMul, Nat.reduceSub, Nat.reduceDiv, Nat.reduceMod, Nat.reduceBEq, Nat.reduceBNe, reduceIte, reduceCtorEq, Int.reduceToNat, Int.reduceLT, Int.reduceLE, Int.reduceAdd, Int.reduceSub, Int.reduceMul, Int.reduceNeg, Int.reduceEq, Int.reduceNe, D_G, D_P, List.lookup, tys, intsV_len]
  refine Br.intro (fun hb => ?_) (fun hb => ?_)
  · have h' : i < R.length := by simpa using hb
    obtain ⟨r, hr⟩ : ∃ r, R[i]? = some r := ⟨_, List.getElem?_eq_getElem h'⟩
    have hvr : (R.map rowV)[i]? = some (rowV r) := by simp [hr]
    obtain ⟨c1, c2⟩ := h.row r (List.mem_of_getElem? hr)
    have m1 := c2 _ (minL_mem (l := r) (by omega))
    have m2 := c2 _ (maxL_mem (l := r) (by omega))
    have b7 : decide (minL r < 0) = false := by simp; omega
    have b8 : decide ((S : Int) ≤ maxL r) = false := by simp; omega
    have w2 := wrapI (n := (i : Int) + 1) (by omega) (by omega)
    simp -implicitDefEqProofs only [s_s, argEnv, PastOK, PendOK, sel, isE, isSp, baseOK, opR, opnd, opnds, opndL, ofConst, look, putE, dstOK, guardL, binR, intOp, loadR, bad, bound, lenV, srcV, Ob.read, V.plain, V.one, V.cells, fillV, setMany, zeros, TK.agg, Sub, cellRes, loadV, bindE, Nat.reduceAdd, Nat.reduceEqDiff, Nat.reduceLT, Nat.reduceLeDiff, Nat.reduceMul, Nat.reduceSub, Nat.reduceDiv, Nat.reduceMod, Nat.reduceBEq, Nat.reduceBNe, reduceIte, reduceCtorEq, Int.reduceToNat, Int.reduceLT, Int.reduceLE, Int.reduceAdd, Int.reduceSub, Int.reduceMul, Int.reduceNeg, Int.reduceEq, Int.reduceNe, D_G, D_P, List.lookup, tys, intsV_len, hvr]
    refine ⟨by omega, ?_⟩
    refine WP.drawF [(0, 0, 0, [4]), (1, 0, 0, [48]), (0, 0, 0, [1]), (4, 0, 0, [50]), (12, 0, 0, [51]), (28, 0, 0, [52]), (60, 0, 0, [53]), (127, 0, 0, [49, 54]), (255, 0, 0, [55]), (511, 0, 0, [4, 56]), (1023, 0, 1, [57, 56]), (2047, 1, 1, [58, 56]), (4095, 1, 1, [56, 59]), (8191, 1, 1, [60]), (16383, 1, 1, [4, 61]), (32767, 1, 2, [62, 61]), (16383, 1, 2, [1, 61]), (81919, 1, 2, [64, 61]), (262143, 2, 2, [63, 65, 61]), (524287, 2, 2, [61, 66])] D_mixed (by decide +kernel) ?_
    simp -implicitDefEqProofs only [s_s, argEnv, PastOK, PendOK, sel, isE, isSp, baseOK, opR, opnd, opnds, opndL, ofConst, look, putE, dstOK, guardL, binR, intOp, loadR, bad, bound, lenV, srcV, Ob.read, V.plain, V.one, V.cells, fillV, setMany, zeros, TK.agg, Sub, cellRes, loadV, bindE, Nat.reduceAdd, Nat.reduceEqDiff, Nat.reduceLT, Nat.reduceLeDiff, Nat.reduceMul, Nat.reduceSub, Nat.reduceDiv, Nat.reduceMod, Nat.reduceBEq, Nat.reduceBNe, reduceIte, reduceCtorEq, Int.reduceToNat, Int.reduceLT, Int.reduceLE, Int.reduceAdd, Int.reduceSub, Int.reduceMul, Int.reduceNeg, Int.reduceEq, Int.reduceNe, D_G, D_P, List.lookup, tys, intsV_len, hv0, rowV, hk0, c1]
    refine ⟨by omega, SpD.call rfl rfl (Min_spec r (by omega) (by omega) _) ?_⟩
    simp -implicitDefEqProofs only [s_s, argEnv, PastOK, PendOK, sel, isE, isSp, baseOK, opR, opnd, opnds, opndL, ofConst, look, putE, dstOK, guardL, binR, intOp, loadR, bad, bound, lenV, srcV, Ob.read, V.plain, V.one, V.cells, fillV, setMany, zeros, TK.agg, Sub, cellRes, loadV, bindE, Nat.reduceAdd, Nat.reduceEqDiff, Nat.reduceLT, Nat.reduceLeDiff, Nat.reduceMul, Nat.reduceSub, Nat.reduceDiv, Nat.reduceMod, Nat.reduceBEq, Nat.reduceBNe, reduceIte, reduceCtorEq, Int.reduceToNat, Int.reduceLT, Int.reduceLE, Int.reduceAdd, Int.reduceSub, Int.reduceMul, Int.reduceNeg, Int.reduceEq, Int.reduceNe, D_G, D_P, List.lookup, tys, intsV_len, b7, rowV]
    refine SpD.call rfl rfl (Max_spec r (by omega) (by omega) _) ?_
    simp -implicitDefEqProofs only [s_s, argEnv, PastOK, PendOK, sel, isE, isSp, baseOK, opR, opnd, opnds, opndL, ofConst, look, putE, dstOK, guardL, binR, intOp, loadR, bad, bound, lenV, srcV, Ob.read, V.plain, V.one, V.cells, fillV, setMany, zeros, TK.agg, Sub, cellRes, loadV, bindE, Nat.reduceAdd, Nat.reduceEqDiff, Nat.reduceLT, Nat.reduceLeDiff, Nat.reduceMul, Nat.reduceSub, Nat.reduceDiv, Nat.reduceMod, Nat.reduceBEq, Nat.reduceBNe, reduceIte, reduceCtorEq, Int.reduceToNat, Int.reduceLT, Int.reduceLE, Int.reduceAdd, Int.reduceSub, Int.reduceMul, Int.reduceNeg, Int.reduceEq, Int.reduceNe, D_G, D_P, List.lookup, tys, intsV_len, b8, rowV, w2]
    refine Kl.next (i + 1) (by omega) (by omega) ?_ rfl
    simp -implicitDefEqProofs only [s_s, argEnv, PastOK, PendOK, sel, isE, isSp, baseOK, opR, opnd, opnds, opndL, ofConst, look, putE, dstOK, guardL, binR, intOp, loadR, bad, bound, lenV, srcV, Ob.read, V.plain, V.one, V.cells, fillV, setMany, zeros, TK.agg, Sub, cellRes, loadV, bindE, Nat.reduceAdd, Nat.reduceEqDiff, Nat.reduceLT, Nat.reduceLeDiff, Nat.reduceMul, Nat.reduceSub, Nat.reduceDiv, Nat.reduceMod, Nat.reduceBEq, Nat.reduceBNe, reduceIte, reduceCtorEq, Int.reduceToNat, Int.reduceLT, Int.reduceLE, Int.reduceAdd, Int.reduceSub, Int.reduceMul, Int.reduceNeg, Int.reduceEq, Int.reduceNe, D_G, D_P, List.lookup, tys, intsV_len, Int.natCast_add, Int.natCast_one]
  · simp -implicitDefEqProofs only [s_s, argEnv, PastOK, PendOK, sel, isE, isSp, baseOK, opR, opnd, opnds, opndL, ofConst, look, putE, dstOK, guardL, binR, intOp, loadR, bad, bound, lenV, srcV, Ob.read, V.plain, V.one, V.cells, fillV, setMany, zeros, TK.agg, Sub, cellRes, loadV, bindE, Nat.reduceAdd, Nat.reduceEqDiff, Nat.reduceLT, Nat.reduceLeDiff, Nat.reduceMul, Nat.reduceSub, Nat.reduceDiv, Nat.reduceMod, Nat.reduceBEq, Nat.reduceBNe, reduceIte, reduceCtorEq, Int.reduceToNat, Int.reduceLT, Int.reduceLE, Int.reduceAdd, Int.reduceSub, Int.reduceMul, Int.reduceNeg, Int.reduceEq, Int.reduceNe, D_G, D_P, List.lookup, tys, intsV_len]
    exact Post.r1 rfl ⟨_, _, rfl, .keep rfl, rfl⟩

/-- An array without rows is not valid. -/
theorem Valid_none (S : Nat) (h2 : 2 ≤ S) (h8 : S ≤ 8) (st : St) : VCall D 27 [arrV S []] st (fun r st' => r = .bool false ∧ st' = st) := by
  have b1 : decide ((S : Int) < 2) = false := by simp; omega
  have b2 : decide ((8 : Int) < S) = false := by simp; omega
  have b3 : decide (((0 : Nat) : Int) < 1) = true := by decide
  refine VCall.clean ?_
  refine VCall.of_WP (fn := Tryd.f27) (c := _) Tryd.func27 rfl (by decide +kernel) (Nat.le_of_ble_eq_true rfl) ?_
  refine wpF_sound ?_
  simp -implicitDefEqProofs only [s_s, argEnv, PastOK, PendOK, sel, isE, isSp, baseOK, opR, opnd, opnds, opndL, ofConst, look, putE, dstOK, guardL, binR, intOp, loadR, bad, bound, lenV, srcV, Ob.read, V.plain, V.one, V.cells, fillV, setMany, zeros, TK.agg, Sub, cellRes, loadV, bindE, Nat.reduceAdd, Nat.reduceEqDiff, Nat.reduceLT, Nat.reduceLeDiff, Nat.reduceMul, Nat.reduceSub, Nat.reduceDiv, Nat.reduceMod, Nat.reduceBEq, Nat.reduceBNe, reduceIte, reduceCtorEq, Int.reduceToNat, Int.reduceLT, Int.reduceLE, Int.reduceAdd, Int.reduceSub, Int.reduceMul, Int.reduceNeg, Int.reduceEq, Int.reduceNe, D_G, D_P, List.lookup, tys, intsV_len, Tryd.ntmps27, Tryd.f27, arrV, b1, b2, b3, Nat.zero_div]
  exact Post.r1 rfl ⟨_, _, rfl, .keep rfl, rfl⟩
end Go.VL
end

