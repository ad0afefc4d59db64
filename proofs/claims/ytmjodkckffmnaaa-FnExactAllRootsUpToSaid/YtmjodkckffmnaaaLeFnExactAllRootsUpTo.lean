import Derived.Test.YtmjodkckffmnaaaP1
import Derived.Test.YtmjodkckffmnaaaP2
import Derived.Test.YtmjodkckffmnaaaP7
import Derived.Test.YtmjodkckffmnaaaP30
import Derived.Test.YtmjodkckffmnaaaP33
namespace Go.Proofs.Ytmjodkckffmnaaa.P
open Go.RowKit Go.Proofs.YtmjodkckffmnaaaW.PrintWords Go.Proofs.YtmjodkckffmnaaaW.PrintLast Go.Proofs.YtmjodkckffmnaaaW.PrintMore
theorem wrap_id {x : Int} (h0 : -9223372036854775808 ≤ x) (h1 : x ≤ 9223372036854775807) : wrap64 x = x := by unfold wrap64; omega
theorem l1In_f (x lo hi : Int) : spec_l1In.f x lo hi = some (inB lo hi x) := by
  unfold spec_l1In.f inB
  by_cases h : x ≥ lo
  · rw [if_pos h]; simp [show lo ≤ x from h]
  · rw [if_neg h]; simp [show ¬ lo ≤ x from h]
theorem inB_iff {lo hi x : Int} : inB lo hi x = true ↔ lo ≤ x ∧ x ≤ hi := by simp [inB]
theorem inB_of {lo hi x : Int} (h : lo ≤ x ∧ x ≤ hi) : inB lo hi x = true := inB_iff.2 h
theorem inB_not {lo hi x : Int} (h : ¬ (lo ≤ x ∧ x ≤ hi)) : inB lo hi x = false := by
  cases e : inB lo hi x with
  | false => rfl
  | true => exact absurd (inB_iff.1 e) h
def tab : Nat → List (List Int)
  | 1 => [[-1, 2, 2, 3]]
  | 2 => [[-2, 3, 6, 7]]
  | 3 => [[-3, 4, 12, 13], [-3, 5, 8, 8]]
  | 4 => [[-4, 5, 20, 21], [-4, 8, 9, 9]]
  | 5 => [[-5, 6, 30, 31], [-5, 7, 18, 18]]
  | 6 => [[-6, 7, 42, 43], [-6, 10, 15, 19], [-6, 11, 14, 15]]
  | 7 => [[-7, 8, 56, 57], [-7, 9, 32, 32], [-7, 12, 17, 20]]
  | 8 => [[-8, 9, 72, 73], [-8, 12, 25, 25], [-8, 13, 21, 24]]
  | 9 => [[-9, 10, 90, 91], [-9, 11, 50, 50], [-9, 14, 26, 27], [-9, 18, 19, 22]]
  | 10 => [[-10, 11, 110, 111], [-10, 14, 35, 39], [-10, 18, 23, 27]]
  | 11 => [[-11, 12, 132, 133], [-11, 13, 72, 72], [-11, 16, 36, 37], [-11, 21, 24, 28]]
  | 12 => [[-12, 13, 156, 157], [-12, 16, 49, 49], [-12, 17, 41, 44], [-12, 21, 28, 37], [-12, 21, 29, 32], [-12, 25, 25, 28]]
  | 13 => [[-13, 14, 182, 183], [-13, 15, 98, 98], [-13, 18, 47, 50], [-13, 23, 30, 38]]
  | 14 => [[-14, 15, 210, 211], [-14, 18, 63, 67], [-14, 19, 54, 55], [-14, 22, 39, 43], [-14, 27, 31, 34]]
  | 15 => [[-15, 16, 240, 241], [-15, 17, 128, 128], [-15, 24, 40, 49], [-15, 24, 41, 44], [-15, 28, 33, 40], [-15, 32, 32, 33]]
  | 16 => [[-16, 17, 272, 273], [-16, 20, 81, 81], [-16, 21, 68, 69], [-16, 29, 36, 45], [-16, 32, 33, 41]]
  | 17 => [[-17, 18, 306, 307], [-17, 19, 162, 162], [-17, 22, 75, 78], [-17, 27, 46, 54], [-17, 30, 42, 43]]
  | 18 => [[-18, 19, 342, 343], [-18, 22, 99, 103], [-18, 23, 83, 86], [-18, 26, 59, 63], [-18, 27, 55, 58], [-18, 31, 43, 54], [-18, 35, 38, 47]]
  | 19 => [[-19, 20, 380, 381], [-19, 21, 200, 200], [-19, 24, 92, 93], [-19, 29, 56, 60], [-19, 32, 48, 53], [-19, 36, 44, 45]]
  | 20 => [[-20, 21, 420, 421], [-20, 24, 121, 121], [-20, 33, 52, 57], [-20, 36, 45, 61], [-20, 36, 49, 49], [-20, 37, 45, 52]]
  | 21 => [[-21, 22, 462, 463], [-21, 23, 242, 242], [-21, 26, 110, 111], [-21, 30, 70, 79], [-21, 30, 71, 74], [-21, 31, 66, 70], [-21, 34, 55, 66], [-21, 38, 47, 62], [-21, 39, 46, 58], [-21, 39, 50, 50]]
  | 22 => [[-22, 23, 506, 507], [-22, 26, 143, 147], [-22, 27, 119, 122], [-22, 30, 83, 87], [-22, 35, 62, 63], [-22, 39, 51, 62], [-22, 42, 47, 59]]
  | 23 => [[-23, 24, 552, 553], [-23, 25, 288, 288], [-23, 28, 129, 132], [-23, 33, 76, 84], [-23, 36, 64, 73], [-23, 40, 57, 60], [-23, 48, 49, 52]]
  | 24 => [[-24, 25, 600, 601], [-24, 28, 169, 169], [-24, 29, 140, 141], [-24, 33, 88, 97], [-24, 33, 89, 92], [-24, 37, 69, 76], [-24, 40, 61, 69], [-24, 41, 60, 65], [-24, 44, 53, 69], [-24, 49, 49, 60]]
  | 25 => [[-25, 26, 650, 651], [-25, 27, 338, 338], [-25, 38, 75, 78], [-25, 42, 62, 75], [-25, 50, 51, 66], [-25, 50, 54, 59]]
  | 26 => [[-26, 27, 702, 703], [-26, 30, 195, 199], [-26, 31, 162, 163], [-26, 34, 111, 115], [-26, 43, 66, 79], [-26, 46, 63, 67], [-26, 51, 55, 66]]
  | 27 => [[-27, 28, 756, 757], [-27, 29, 392, 392], [-27, 32, 173, 176], [-27, 36, 109, 112], [-27, 37, 100, 108], [-27, 40, 85, 88], [-27, 44, 72, 77], [-27, 45, 68, 80], [-27, 52, 61, 64], [-27, 53, 56, 72]]
  | 28 => [[-28, 29, 812, 813], [-28, 32, 225, 225], [-28, 33, 185, 188], [-28, 41, 89, 96], [-28, 44, 77, 93], [-28, 44, 81, 81], [-28, 45, 77, 80], [-28, 48, 69, 77], [-28, 53, 60, 77], [-28, 57, 60, 65]]
  | 29 => [[-29, 30, 870, 871], [-29, 31, 450, 450], [-29, 34, 198, 199], [-29, 39, 114, 118], [-29, 42, 94, 103], [-29, 46, 79, 90], [-29, 54, 63, 82], [-29, 55, 66, 70]]
  | 30 => [[-30, 31, 930, 931], [-30, 34, 255, 259], [-30, 38, 143, 147], [-30, 39, 130, 139], [-30, 39, 131, 134], [-30, 43, 102, 103], [-30, 47, 83, 98], [-30, 55, 66, 91], [-30, 55, 67, 82], [-30, 59, 66, 71]]
  | _ => []
theorem tab_s1 : spec_apRoots.f 4000 ((1 : Nat) : Int) = some (tab 1) := by kernel_rfl
theorem tab_i1 : impl_rootsWith.f 4000 ((1 : Nat) : Int) = some (tab 1) := by kernel_rfl
theorem tab_s2 : spec_apRoots.f 4000 ((2 : Nat) : Int) = some (tab 2) := by kernel_rfl
theorem tab_i2 : impl_rootsWith.f 4000 ((2 : Nat) : Int) = some (tab 2) := by kernel_rfl
theorem tab_s3 : spec_apRoots.f 4000 ((3 : Nat) : Int) = some (tab 3) := by kernel_rfl
theorem tab_i3 : impl_rootsWith.f 4000 ((3 : Nat) : Int) = some (tab 3) := by kernel_rfl
theorem tab_s4 : spec_apRoots.f 4000 ((4 : Nat) : Int) = some (tab 4) := by kernel_rfl
theorem tab_i4 : impl_rootsWith.f 4000 ((4 : Nat) : Int) = some (tab 4) := by kernel_rfl
theorem tab_s5 : spec_apRoots.f 4000 ((5 : Nat) : Int) = some (tab 5) := by kernel_rfl
theorem tab_i5 : impl_rootsWith.f 4000 ((5 : Nat) : Int) = some (tab 5) := by kernel_rfl
theorem tab_s6 : spec_apRoots.f 4000 ((6 : Nat) : Int) = some (tab 6) := by kernel_rfl
theorem tab_i6 : impl_rootsWith.f 4000 ((6 : Nat) : Int) = some (tab 6) := by kernel_rfl
theorem tab_s7 : spec_apRoots.f 4000 ((7 : Nat) : Int) = some (tab 7) := by kernel_rfl
theorem tab_i7 : impl_rootsWith.f 4000 ((7 : Nat) : Int) = some (tab 7) := by kernel_rfl
theorem tab_s8 : spec_apRoots.f 4000 ((8 : Nat) : Int) = some (tab 8) := by kernel_rfl
theorem tab_i8 : impl_rootsWith.f 4000 ((8 : Nat) : Int) = some (tab 8) := by kernel_rfl
theorem tab_s9 : spec_apRoots.f 4000 ((9 : Nat) : Int) = some (tab 9) := by kernel_rfl
theorem tab_i9 : impl_rootsWith.f 4000 ((9 : Nat) : Int) = some (tab 9) := by kernel_rfl
theorem tab_s10 : spec_apRoots.f 4000 ((10 : Nat) : Int) = some (tab 10) := by kernel_rfl
theorem tab_i10 : impl_rootsWith.f 4000 ((10 : Nat) : Int) = some (tab 10) := by kernel_rfl
theorem tab_s11 : spec_apRoots.f 4000 ((11 : Nat) : Int) = some (tab 11) := by kernel_rfl
theorem tab_i11 : impl_rootsWith.f 4000 ((11 : Nat) : Int) = some (tab 11) := by kernel_rfl
theorem tab_s12 : spec_apRoots.f 4000 ((12 : Nat) : Int) = some (tab 12) := by kernel_rfl
theorem tab_i12 : impl_rootsWith.f 4000 ((12 : Nat) : Int) = some (tab 12) := by kernel_rfl
theorem tab_s13 : spec_apRoots.f 4000 ((13 : Nat) : Int) = some (tab 13) := by kernel_rfl
theorem tab_i13 : impl_rootsWith.f 4000 ((13 : Nat) : Int) = some (tab 13) := by kernel_rfl
theorem tab_s14 : spec_apRoots.f 4000 ((14 : Nat) : Int) = some (tab 14) := by kernel_rfl
theorem tab_i14 : impl_rootsWith.f 4000 ((14 : Nat) : Int) = some (tab 14) := by kernel_rfl
theorem tab_s15 : spec_apRoots.f 4000 ((15 : Nat) : Int) = some (tab 15) := by kernel_rfl
theorem tab_i15 : impl_rootsWith.f 4000 ((15 : Nat) : Int) = some (tab 15) := by kernel_rfl
theorem tab_s16 : spec_apRoots.f 4000 ((16 : Nat) : Int) = some (tab 16) := by kernel_rfl
theorem tab_i16 : impl_rootsWith.f 4000 ((16 : Nat) : Int) = some (tab 16) := by kernel_rfl
theorem tab_s17 : spec_apRoots.f 4000 ((17 : Nat) : Int) = some (tab 17) := by kernel_rfl
theorem tab_i17 : impl_rootsWith.f 4000 ((17 : Nat) : Int) = some (tab 17) := by kernel_rfl
theorem tab_s18 : spec_apRoots.f 4000 ((18 : Nat) : Int) = some (tab 18) := by kernel_rfl
theorem tab_i18 : impl_rootsWith.f 4000 ((18 : Nat) : Int) = some (tab 18) := by kernel_rfl
theorem tab_s19 : spec_apRoots.f 4000 ((19 : Nat) : Int) = some (tab 19) := by kernel_rfl
theorem tab_i19 : impl_rootsWith.f 4000 ((19 : Nat) : Int) = some (tab 19) := by kernel_rfl
theorem tab_s20 : spec_apRoots.f 4000 ((20 : Nat) : Int) = some (tab 20) := by kernel_rfl
theorem tab_i20 : impl_rootsWith.f 4000 ((20 : Nat) : Int) = some (tab 20) := by kernel_rfl
theorem tab_s21 : spec_apRoots.f 4000 ((21 : Nat) : Int) = some (tab 21) := by kernel_rfl
theorem tab_i21 : impl_rootsWith.f 4000 ((21 : Nat) : Int) = some (tab 21) := by kernel_rfl
theorem tab_s22 : spec_apRoots.f 4000 ((22 : Nat) : Int) = some (tab 22) := by kernel_rfl
theorem tab_i22 : impl_rootsWith.f 4000 ((22 : Nat) : Int) = some (tab 22) := by kernel_rfl
theorem tab_s23 : spec_apRoots.f 4000 ((23 : Nat) : Int) = some (tab 23) := by kernel_rfl
theorem tab_i23 : impl_rootsWith.f 4000 ((23 : Nat) : Int) = some (tab 23) := by kernel_rfl
theorem tab_s24 : spec_apRoots.f 4000 ((24 : Nat) : Int) = some (tab 24) := by kernel_rfl
theorem tab_i24 : impl_rootsWith.f 4000 ((24 : Nat) : Int) = some (tab 24) := by kernel_rfl
theorem tab_s25 : spec_apRoots.f 4000 ((25 : Nat) : Int) = some (tab 25) := by kernel_rfl
theorem tab_i25 : impl_rootsWith.f 4000 ((25 : Nat) : Int) = some (tab 25) := by kernel_rfl
theorem tab_s26 : spec_apRoots.f 4000 ((26 : Nat) : Int) = some (tab 26) := by kernel_rfl
theorem tab_i26 : impl_rootsWith.f 4000 ((26 : Nat) : Int) = some (tab 26) := by kernel_rfl
theorem tab_s27 : spec_apRoots.f 4000 ((27 : Nat) : Int) = some (tab 27) := by kernel_rfl
theorem tab_i27 : impl_rootsWith.f 4000 ((27 : Nat) : Int) = some (tab 27) := by kernel_rfl
theorem tab_s28 : spec_apRoots.f 4000 ((28 : Nat) : Int) = some (tab 28) := by kernel_rfl
theorem tab_i28 : impl_rootsWith.f 4000 ((28 : Nat) : Int) = some (tab 28) := by kernel_rfl
theorem tab_s29 : spec_apRoots.f 4000 ((29 : Nat) : Int) = some (tab 29) := by kernel_rfl
theorem tab_i29 : impl_rootsWith.f 4000 ((29 : Nat) : Int) = some (tab 29) := by kernel_rfl
theorem tab_s30 : spec_apRoots.f 4000 ((30 : Nat) : Int) = some (tab 30) := by kernel_rfl
theorem tab_i30 : impl_rootsWith.f 4000 ((30 : Nat) : Int) = some (tab 30) := by kernel_rfl
theorem tab_all (n : Nat) (h0 : 1 ≤ n) (h1 : n ≤ 30) : spec_apRoots.f 4000 n = some (tab n) ∧ impl_rootsWith.f 4000 n = some (tab n) ∧ (tab n).length ≤ 10 ∧ cellsOf (tab n) ≤ 100 := by
  match n, h0, h1 with
  | 1, _, _ => exact ⟨tab_s1, tab_i1, by simp [tab], by simp [tab, cellsOf]⟩
  | 2, _, _ => exact ⟨tab_s2, tab_i2, by simp [tab], by simp [tab, cellsOf]⟩
  | 3, _, _ => exact ⟨tab_s3, tab_i3, by simp [tab], by simp [tab, cellsOf]⟩
  | 4, _, _ => exact ⟨tab_s4, tab_i4, by simp [tab], by simp [tab, cellsOf]⟩
  | 5, _, _ => exact ⟨tab_s5, tab_i5, by simp [tab], by simp [tab, cellsOf]⟩
  | 6, _, _ => exact ⟨tab_s6, tab_i6, by simp [tab], by simp [tab, cellsOf]⟩
  | 7, _, _ => exact ⟨tab_s7, tab_i7, by simp [tab], by simp [tab, cellsOf]⟩
  | 8, _, _ => exact ⟨tab_s8, tab_i8, by simp [tab], by simp [tab, cellsOf]⟩
  | 9, _, _ => exact ⟨tab_s9, tab_i9, by simp [tab], by simp [tab, cellsOf]⟩
  | 10, _, _ => exact ⟨tab_s10, tab_i10, by simp [tab], by simp [tab, cellsOf]⟩
  | 11, _, _ => exact ⟨tab_s11, tab_i11, by simp [tab], by simp [tab, cellsOf]⟩
  | 12, _, _ => exact ⟨tab_s12, tab_i12, by simp [tab], by simp [tab, cellsOf]⟩
  | 13, _, _ => exact ⟨tab_s13, tab_i13, by simp [tab], by simp [tab, cellsOf]⟩
  | 14, _, _ => exact ⟨tab_s14, tab_i14, by simp [tab], by simp [tab, cellsOf]⟩
  | 15, _, _ => exact ⟨tab_s15, tab_i15, by simp [tab], by simp [tab, cellsOf]⟩
  | 16, _, _ => exact ⟨tab_s16, tab_i16, by simp [tab], by simp [tab, cellsOf]⟩
  | 17, _, _ => exact ⟨tab_s17, tab_i17, by simp [tab], by simp [tab, cellsOf]⟩
  | 18, _, _ => exact ⟨tab_s18, tab_i18, by simp [tab], by simp [tab, cellsOf]⟩
  | 19, _, _ => exact ⟨tab_s19, tab_i19, by simp [tab], by simp [tab, cellsOf]⟩
  | 20, _, _ => exact ⟨tab_s20, tab_i20, by simp [tab], by simp [tab, cellsOf]⟩
  | 21, _, _ => exact ⟨tab_s21, tab_i21, by simp [tab], by simp [tab, cellsOf]⟩
  | 22, _, _ => exact ⟨tab_s22, tab_i22, by simp [tab], by simp [tab, cellsOf]⟩
  | 23, _, _ => exact ⟨tab_s23, tab_i23, by simp [tab], by simp [tab, cellsOf]⟩
  | 24, _, _ => exact ⟨tab_s24, tab_i24, by simp [tab], by simp [tab, cellsOf]⟩
  | 25, _, _ => exact ⟨tab_s25, tab_i25, by simp [tab], by simp [tab, cellsOf]⟩
  | 26, _, _ => exact ⟨tab_s26, tab_i26, by simp [tab], by simp [tab, cellsOf]⟩
  | 27, _, _ => exact ⟨tab_s27, tab_i27, by simp [tab], by simp [tab, cellsOf]⟩
  | 28, _, _ => exact ⟨tab_s28, tab_i28, by simp [tab], by simp [tab, cellsOf]⟩
  | 29, _, _ => exact ⟨tab_s29, tab_i29, by simp [tab], by simp [tab, cellsOf]⟩
  | 30, _, _ => exact ⟨tab_s30, tab_i30, by simp [tab], by simp [tab, cellsOf]⟩
  | n + 31, _, h => omega

end Go.Proofs.Ytmjodkckffmnaaa.P
