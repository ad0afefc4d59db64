/- Lean functions with the answers of Go functions that the statement reaches, and the proofs that the calls come to them; conditions: none but the arguments' kinds. -/
import Derived.Test.YtmpofeilljmmiaaGreatDoorP0
import Derived.Test.YtmpofeilljmmiaaGreatDoorP7
import Derived.Test.YtmpofeilljmmiaaGreatDoorP27
import Derived.Test.YtmpofeilljmmiaaGreatDoorP34
import Derived.Test.YtmpofeilljmmiaaGreatDoorP22
import Derived.Test.YtmpofeilljmmiaaGreatDoorP18
namespace Go.Proofs.YtmpofeilljmmiaaGreatDoor.P
open Go.RowKit Go.Proofs.YtmpofeilljmmiaaGreatDoorW.PrintWords Go.Proofs.YtmpofeilljmmiaaGreatDoorW.PrintLast Go.Proofs.YtmpofeilljmmiaaGreatDoorW.PrintMore
attribute [local go_sem] max2_int min2_int max_two min_two max_three min_three max_four min_four
set_option linter.unusedVariables false
set_option linter.unusedSimpArgs false
mutual
def spec_l1Cur_spoilt.l0:Nat→ByteArray→ByteArray→Int→List Int→Int→Int→Option (ByteArray × Int × Int)
  |0,_,_,_,_,_,_=>none
  |k+1,x1,x2,x7,x1000,x1001,x1002=>if x7>0 then(spec_l1Cur_spoilt.j1 k x1 x2 x7 (decide ((x1.size:Int)>0)) x1000 x1001 x1002)else(spec_l1Cur_spoilt.j1 k x1 x2 x7 false x1000 x1001 x1002)
def spec_l1Cur_spoilt.j1:Nat→ByteArray→ByteArray→Int→Bool→List Int→Int→Int→Option (ByteArray × Int × Int)
  |0,_,_,_,_,_,_,_=>none
  |k+1,x1,x2,x7,x19,x1000,x1001,x1002=>if x19=true then((spec_l1Cur_pick.f x1000 x1001 x1002 (x1.size:Int)).bind fun bt679=>((spec_l1Cur_pick.f x1000 bt679.2.1 bt679.2.2 (x2.size:Int)).bind fun bt682=>(if 0≤bt682.1 then(if bt682.1<(x2.size:Int)then((some (([bt x2 bt682.1]:List Int):List Int)).bind fun y685=>((spec_l1Cur_pick.f x1000 bt682.2.1 bt682.2.2 3).bind fun bt688=>(if bt688.1=0 then(if 0≤bt679.1 then(if bt679.1≤(x1.size:Int)then(if(x1.extract 0 (bt679.1:Int).toNat).size+(strOfNums y685).size≤9223372036854775807 then(if((x1.extract 0 (bt679.1:Int).toNat)++(strOfNums y685)).size+(x1.extract (bt679.1:Int).toNat x1.size).size≤9223372036854775807 then(spec_l1Cur_spoilt.l0 k (((x1.extract 0 (bt679.1:Int).toNat)++(strOfNums y685))++(x1.extract (bt679.1:Int).toNat x1.size)) x2 (wrap64 (x7-1)) x1000 bt688.2.1 bt688.2.2)else(none))else(none))else(none))else(none))else(if bt688.1=1 then(if 0≤bt679.1 then(if bt679.1≤(x1.size:Int)then(if(x1.extract 0 (bt679.1:Int).toNat).size+(strOfNums y685).size≤9223372036854775807 then(if 0≤(wrap64 (bt679.1+1))then(if(wrap64 (bt679.1+1))≤(x1.size:Int)then(if((x1.extract 0 (bt679.1:Int).toNat)++(strOfNums y685)).size+(x1.extract ((wrap64 (bt679.1+1)):Int).toNat x1.size).size≤9223372036854775807 then(spec_l1Cur_spoilt.l0 k (((x1.extract 0 (bt679.1:Int).toNat)++(strOfNums y685))++(x1.extract ((wrap64 (bt679.1+1)):Int).toNat x1.size)) x2 (wrap64 (x7-1)) x1000 bt688.2.1 bt688.2.2)else(none))else(none))else(none))else(none))else(none))else(none))else(if 0≤bt679.1 then(if bt679.1≤(x1.size:Int)then(if 0≤(wrap64 (bt679.1+1))then(if(wrap64 (bt679.1+1))≤(x1.size:Int)then(if(x1.extract 0 (bt679.1:Int).toNat).size+(x1.extract ((wrap64 (bt679.1+1)):Int).toNat x1.size).size≤9223372036854775807 then(spec_l1Cur_spoilt.l0 k ((x1.extract 0 (bt679.1:Int).toNat)++(x1.extract ((wrap64 (bt679.1+1)):Int).toNat x1.size)) x2 (wrap64 (x7-1)) x1000 bt688.2.1 bt688.2.2)else(none))else(none))else(none))else(none))else(none))))))else(none))else(none))))else(some (x1,x1001,x1002))
end
def spec_l1Cur_spoilt.f (k:Nat) (s0_0:List Int) (s0_1:Int) (s0_2:Int) (a1:ByteArray) (a2:ByteArray):Option (ByteArray × Int × Int):=(spec_l1Cur_pick.f s0_0 s0_1 s0_2 2).bind fun bt676=>(spec_l1Cur_spoilt.l0 k a1 a2 (wrap64 (1+bt676.1)) s0_0 bt676.2.1 bt676.2.2)
theorem spec_l1Cur_spoilt.mono_l:∀k,(∀y0 y1 y2 y3 y4 y5,LeO (spec_l1Cur_spoilt.l0 k y0 y1 y2 y3 y4 y5) (spec_l1Cur_spoilt.l0 (k+1) y0 y1 y2 y3 y4 y5))∧(∀y0 y1 y2 y3 y4 y5 y6,LeO (spec_l1Cur_spoilt.j1 k y0 y1 y2 y3 y4 y5 y6) (spec_l1Cur_spoilt.j1 (k+1) y0 y1 y2 y3 y4 y5 y6))
  |0=>⟨fun _ _ _ _ _ _ r h=>by simp[spec_l1Cur_spoilt.l0]at h,fun _ _ _ _ _ _ _ r h=>by simp[spec_l1Cur_spoilt.j1]at h⟩
  |k+1=>by
    obtain⟨ih0,ih1⟩:=spec_l1Cur_spoilt.mono_l k
    refine⟨?_,?_⟩
    · intro y0 y1 y2 y3 y4 y5
      unfold spec_l1Cur_spoilt.l0
      exact mo_
    · intro y0 y1 y2 y3 y4 y5 y6
      unfold spec_l1Cur_spoilt.j1
      exact mo_
theorem spec_l1Cur_spoilt.mono:∀a0 a1 a2 a3 a4 k,LeO (spec_l1Cur_spoilt.f k a0 a1 a2 a3 a4) (spec_l1Cur_spoilt.f (k+1) a0 a1 a2 a3 a4):=by
  intro a0 a1 a2 a3 a4 k
  obtain⟨ih0,ih1⟩:=spec_l1Cur_spoilt.mono_l k
  unfold spec_l1Cur_spoilt.f
  exact mo_
set_option maxHeartbeats 8000000 in
set_option maxRecDepth 100000 in
theorem spec_l1Cur_spoilt.calls (k:Nat) (g:Nat) (s0_0:List Int) (s0_1:Int) (s0_2:Int) (a1:ByteArray) (a2:ByteArray) (r1:ByteArray) (r2:Int) (r3:Int) (w0 w:World) (hI:IsS58 w0 w g s0_0 s0_1 s0_2) (hB:Below w0.heap.size w0 w) (h:spec_l1Cur_spoilt.f k s0_0 s0_1 s0_2 a1 a2=some (r1,r2,r3)):
  Calls Tryz.prog 65 #[.pointer (some ⟨g,0,none⟩),.string a1,.string a2] w fun e w'=>e= .returned (.string r1)∧IsS58 w0 w' g s0_0 r2 r3∧Below w0.heap.size w0 w'∧KeepBut w w' g none:=by
 have HI0:=am hI
 have HK:=am (KeepBut.refl w g none)
 have HL:=am hB.size
 clear hI
 have HW0:=am hB.size
 have HB:=am hB
 clear hB
 have H:=h
 clear h
 unfold spec_l1Cur_spoilt.f at H
 obtain⟨⟨t676,t677,t678⟩,A4,H⟩:=bs_ H
 try dsimp only at H
 have H':=am H
 clear H
 go_enter Tryz.func65,Tryz.ntmps65
 go_wp2_with (first|(go_at_call 56;(with_reducible refine(spec_l1Cur_pick.calls g s0_0 s0_1 s0_2 2 t676 t677 t678 w0 _ ?side1 ?side2 A4.1).mono ?_);(case side1=>exact(Z2 HI0));(case side2=>exact ZB);rintro e w5 ⟨rfl,hi,hb,hk⟩;replace HK:=am (KeepBut.trans Z4 hk (.inl rfl));replace HB:=am hb;replace HI0:=am hi;clear hb hk hi))
 repeat(go_quiet (first|(go_at_call 56;(with_reducible refine(spec_l1Cur_pick.calls g s0_0 s0_1 s0_2 2 t676 t677 t678 w0 _ ?side1 ?side2 A4.1).mono ?_);(case side1=>exact(Z2 HI0));(case side2=>exact ZB);rintro e w5 ⟨rfl,hi,hb,hk⟩;have n0_:=am (KeepBut.trans Z4 hk (.inl rfl));have n1_:=am (hb);have n2_:=am (hi);clear HK;clear HB;clear HI0;have HK:=n0_;have HB:=n1_;have HI0:=n2_;clear n0_ n1_ n2_;(try clear hb);(try clear hb2);(try clear hk);(try clear hi)));try go_wp2_with (first|(go_at_call 56;(with_reducible refine(spec_l1Cur_pick.calls g s0_0 s0_1 s0_2 2 t676 t677 t678 w0 _ ?side1 ?side2 A4.1).mono ?_);(case side1=>exact(Z2 HI0));(case side2=>exact ZB);rintro e w5 ⟨rfl,hi,hb,hk⟩;replace HK:=am (KeepBut.trans Z4 hk (.inl rfl));replace HB:=am hb;replace HI0:=am hi;clear hb hk hi)))
 go_loopg [1,7] k (fun kq v1 v7 w'=>∃(x1_1:ByteArray) (x7_1:Int) (x1001_1:Int) (x1002_1:Int),v1= .string x1_1∧v7= .int .i64 x7_1∧Aside0 (spec_l1Cur_spoilt.l0 kq x1_1 a2 x7_1 s0_0 x1001_1 x1002_1=some (r1,r2,r3))∧Aside0 (kq≤k)∧Aside0 (IsS58 w0 w' g s0_0 x1001_1 x1002_1)∧Aside0 (KeepBut w w' g none)∧Aside0 (Below w0.heap.size w0 w'))
 case atStart=>exact⟨(a1),(wrap64 (1+t676)),(t677),(t678),Z7,Z7,H',⟨Nat.le_refl _⟩,⟨(Z2 HI0)⟩,⟨Z4⟩,⟨ZB⟩⟩
 clear H'
 obtain⟨x1_1,x7_1,x1001_1,x1002_1,rfl,rfl,HA,HK1,HI0,HK,HB⟩:=hrel
 obtain _|k1:=gk
 ·
  exact absurd HA.out (by simp[spec_l1Cur_spoilt.l0])
 have H:=HA.out
 clear HA
 simp only[spec_l1Cur_spoilt.l0]at H
 have HC6:=am H
 clear H
 go_upto_region 2 with(fail)
 repeat(go_quiet (fail);go_upto_region 2 with(fail))
 go_cut[19] (fun v19 wc=>∃(kq:Nat) (x19_5:Bool),v19= .bool x19_5∧Aside0 (spec_l1Cur_spoilt.j1 kq x1_1 a2 x7_1 x19_5 s0_0 x1001_1 x1002_1=some (r1,r2,r3))∧Aside0 (kq≤k1)∧Aside0 (IsS58 w0 wc g s0_0 x1001_1 x1002_1)∧Aside0 (KeepBut w wc g none)∧Aside0 (Below w0.heap.size w0 wc))
 case first=>
  have H:=HC6.1
  clear HC6
  by_cases c7:x7_1>0
  ·
   rw[if_pos c7]at H
   have c7b0:decide (0<x7_1)=true:=decide_eq_true c7
   clear c7
   (first|rw[c7b0]|(simp only[i64_w,i32_w];rw[c7b0])|skip)
   have H':=am H
   clear H
   go_wp2
   repeat(go_quiet (fail);try go_wp2)
   go_meet
   exact⟨_,(decide ((x1_1.size:Int)>0)),Z7,H',⟨(by have:=HK1.1;first|omega|exact Nat.le_refl _)⟩,⟨(Z2 HI0)⟩,⟨Z4⟩,⟨ZB⟩⟩
  rw[if_neg c7]at H
  have c7b0:decide (0<x7_1)=false:=decide_eq_false c7
  clear c7
  (first|rw[c7b0]|(simp only[i64_w,i32_w];rw[c7b0])|skip)
  have H':=am H
  clear H
  go_wp2
  repeat(go_quiet (fail);try go_wp2)
  go_meet
  exact⟨_,(false),Z7,H',⟨(by have:=HK1.1;first|omega|exact Nat.le_refl _)⟩,⟨(Z2 HI0)⟩,⟨Z4⟩,⟨ZB⟩⟩
 clear HC6
 obtain⟨kq,x19_5,rfl,HA,HJ5,HI0,HK,HB⟩:=hcut
 obtain _|kj5:=kq
 ·
  exact absurd HA.out (by simp[spec_l1Cur_spoilt.j1])
 have H:=HA.out
 clear HA
 simp only[spec_l1Cur_spoilt.j1]at H
 by_cases c8:x19_5=true
 rotate_left
 ·
  replace c8:=Bool.eq_false_iff.mpr c8
  subst c8
  rw[if_neg (show¬(false=true) by decide)]at H
  simp only[Option.some.injEq,Prod.mk.injEq]at H
  obtain⟨rfl,rfl,rfl⟩:=H
  go_wp2
  repeat(go_quiet (fail);try go_wp2)
  go_ret
  exact⟨Z6,(Z2 HI0),ZB,Z4⟩
 subst c8
 rw[if_pos rfl]at H
 obtain⟨⟨t679,t680,t681⟩,A9,H⟩:=bs_ H
 try dsimp only at H
 obtain⟨⟨t682,t683,t684⟩,A10,H⟩:=bs_ H
 try dsimp only at H
 obtain⟨c11,H⟩:=ip_ H
 have c11b0:=decide_eq_true c11
 clear c11
 obtain⟨c12,H⟩:=ip_ H
 have c12b0:=decide_eq_true c12
 clear c12
 obtain⟨y_a,hy_a⟩:∃y_:List Int,y_=(([bt a2 t682]:List Int)):=⟨_,rfl⟩
 replace H:((spec_l1Cur_pick.f s0_0 t683 t684 3).bind fun bt688=>(if bt688.1=0 then(if 0≤t679 then(if t679≤(x1_1.size:Int)then(if(x1_1.extract 0 (t679:Int).toNat).size+(strOfNums y_a).size≤9223372036854775807 then(if((x1_1.extract 0 (t679:Int).toNat)++(strOfNums y_a)).size+(x1_1.extract (t679:Int).toNat x1_1.size).size≤9223372036854775807 then(spec_l1Cur_spoilt.l0 kj5 (((x1_1.extract 0 (t679:Int).toNat)++(strOfNums y_a))++(x1_1.extract (t679:Int).toNat x1_1.size)) a2 (wrap64 (x7_1-1)) s0_0 bt688.2.1 bt688.2.2)else(none))else(none))else(none))else(none))else(if bt688.1=1 then(if 0≤t679 then(if t679≤(x1_1.size:Int)then(if(x1_1.extract 0 (t679:Int).toNat).size+(strOfNums y_a).size≤9223372036854775807 then(if 0≤(wrap64 (t679+1))then(if(wrap64 (t679+1))≤(x1_1.size:Int)then(if((x1_1.extract 0 (t679:Int).toNat)++(strOfNums y_a)).size+(x1_1.extract ((wrap64 (t679+1)):Int).toNat x1_1.size).size≤9223372036854775807 then(spec_l1Cur_spoilt.l0 kj5 (((x1_1.extract 0 (t679:Int).toNat)++(strOfNums y_a))++(x1_1.extract ((wrap64 (t679+1)):Int).toNat x1_1.size)) a2 (wrap64 (x7_1-1)) s0_0 bt688.2.1 bt688.2.2)else(none))else(none))else(none))else(none))else(none))else(none))else(if 0≤t679 then(if t679≤(x1_1.size:Int)then(if 0≤(wrap64 (t679+1))then(if(wrap64 (t679+1))≤(x1_1.size:Int)then(if(x1_1.extract 0 (t679:Int).toNat).size+(x1_1.extract ((wrap64 (t679+1)):Int).toNat x1_1.size).size≤9223372036854775807 then(spec_l1Cur_spoilt.l0 kj5 ((x1_1.extract 0 (t679:Int).toNat)++(x1_1.extract ((wrap64 (t679+1)):Int).toNat x1_1.size)) a2 (wrap64 (x7_1-1)) s0_0 bt688.2.1 bt688.2.2)else(none))else(none))else(none))else(none))else(none)))))=some (r1,r2,r3):=Z8
 have Ny_a:=am hy_a
 clear hy_a
 obtain⟨⟨t688,t689,t690⟩,A14,H⟩:=bs_ H
 try dsimp only at H
 by_cases c15:t688=0
 ·
  rw[if_pos c15]at H
  obtain⟨c15b0,c15b1⟩:=eq2_ c15
  clear c15
  obtain⟨c16,H⟩:=ip_ H
  have c16b0:=eq_true c16
  have c16b1:=decide_eq_true c16
  clear c16
  obtain⟨c17,H⟩:=ip_ H
  have c17b0:=eq_true c17
  have c17b1:=decide_eq_true c17
  clear c17
  obtain⟨c18,H⟩:=ip_ H
  have c18b0:=eq_true c18
  have c18b1:=decide_eq_true c18
  try have c18b2:(9223372036854775807<(x1_1.extract 0 (t679:Int).toNat).size+(strOfNums y_a).size)=False:=eq_false (Nat.not_lt.2 c18)
  have c19b0:=eq_true (of_decide_eq_true Z5:0≤t679)
  have c20b0:=eq_true (of_decide_eq_true Z5:t679≤(x1_1.size:Int))
  obtain⟨c21,H⟩:=ip_ H
  have c21b0:=eq_true c21
  have c21b1:=decide_eq_true c21
  try have c21b2:(9223372036854775807<((x1_1.extract 0 (t679:Int).toNat)++(strOfNums y_a)).size+(x1_1.extract (t679:Int).toNat x1_1.size).size)=False:=eq_false (Nat.not_lt.2 c21)
  have H':=am H
  clear H
  go_wp2_with (first|(go_at_call 56;(with_reducible refine(spec_l1Cur_pick.calls g s0_0 x1001_1 x1002_1 (x1_1.size:Int) t679 t680 t681 w0 _ ?side1 ?side2 A9.1).mono ?_);(case side1=>exact(Z2 HI0));(case side2=>exact ZB);rintro e w22 ⟨rfl,hi,hb,hk⟩;replace HK:=am (KeepBut.trans Z4 hk (.inl rfl));replace HB:=am hb;replace HI0:=am hi;clear hb hk hi)|(go_at_call 56;(with_reducible refine(spec_l1Cur_pick.calls g s0_0 t680 t681 (a2.size:Int) t682 t683 t684 w0 _ ?side1 ?side2 A10.1).mono ?_);(case side1=>exact(Z2 HI0));(case side2=>exact ZB);rintro e w23 ⟨rfl,hi,hb,hk⟩;replace HK:=am (KeepBut.trans Z4 hk (.inl rfl));replace HB:=am hb;replace HI0:=am hi;clear hb hk hi;have p13:0≤(t682:Int):=of_decide_eq_true Z5;have q13:t682<(a2.size:Int):=of_decide_eq_true Z5;have hx13:=bt_at a2 t682;replace p13:=eq_true p13;replace q13:=eq_true q13)|((with_reducible refine gd_ 32 rfl ?_);(try(refine gate_guard (by rfl) ?_;dsimp only));refine Kd.R_lit (Kd.int .u8) _ 5 ?hg (N:=32) ?hd (xs:=([bt a2 t682]:List Int)) (inner:=[.int .u8 (bt a2 t682)]) (ok:=fun _=>True) (okp:=fun _=>True) ?hr ?hp (fun _ hk=>hk) trivial (Below.refl _ _) (Nat.le_refl _) (by simp) ?_;(case hd=>rfl);(case hg=>rfl);(case hr=>first|(go_simp;done)|(go_simp;rfl));(case hp=>exact(Reps.one (show Kd.M (Kd.int .u8) _ _ _ (bt a2 t682) [.int .u8 (bt a2 t682)]from rfl) (Reps.none _ _)));intro v686 w24 ho25 hb hg_ hnew_;clear hg_ hnew_;(first|rw[←Ny_a.1]at ho25|(simp only[Int.reduceToNat]at ho25;rw[←Ny_a.1]at ho25));have HOoa:=am (Kd.R_lower ho25 (keep_size (w:=w) (g:=g) (row:=none) Z4));replace HK:=am (KeepBut.trans Z4 (KeepBut.of_below hb g none) (.inl rfl));replace HB:=bw_ hb;replace HI0:=am (IsS58.below (Z2 HI0) hb);clear hb ho25;have hcv26:=own_string (P:=Tryz.prog) Tryz.underlying22 Tryz.underlying5 Tryz.underlying9 (Kd.own_of_R HOoa.1))|(go_at_call 56;(with_reducible refine(spec_l1Cur_pick.calls g s0_0 t683 t684 3 t688 t689 t690 w0 _ ?side1 ?side2 A14.1).mono ?_);(case side1=>exact(Z2 HI0));(case side2=>exact ZB);rintro e w27 ⟨rfl,hi,hb,hk⟩;replace HOoa:=am (Kd.R_mono (Kd.R_keep (IsS58.apart (show IsS58 w0 _ g s0_0 t683 t684 from(Z2 HI0)) (Z1 HOoa) (by decide)) hk (fun _ h=>h.2)) (fun _ h=>h.1));replace HK:=am (KeepBut.trans Z4 hk (.inl rfl));replace HB:=am hb;replace HI0:=am hi;clear hb hk hi))
  repeat(go_quiet (first|(go_at_call 56;(with_reducible refine(spec_l1Cur_pick.calls g s0_0 x1001_1 x1002_1 (x1_1.size:Int) t679 t680 t681 w0 _ ?side1 ?side2 A9.1).mono ?_);(case side1=>exact(Z2 HI0));(case side2=>exact ZB);rintro e w22 ⟨rfl,hi,hb,hk⟩;have n0_:=am (KeepBut.trans Z4 hk (.inl rfl));have n1_:=am (hb);have n2_:=am (hi);clear HK;clear HB;clear HI0;have HK:=n0_;have HB:=n1_;have HI0:=n2_;clear n0_ n1_ n2_;(try clear hb);(try clear hb2);(try clear hk);(try clear hi))|(go_at_call 56;(with_reducible refine(spec_l1Cur_pick.calls g s0_0 t680 t681 (a2.size:Int) t682 t683 t684 w0 _ ?side1 ?side2 A10.1).mono ?_);(case side1=>exact(Z2 HI0));(case side2=>exact ZB);rintro e w23 ⟨rfl,hi,hb,hk⟩;have n0_:=am (KeepBut.trans Z4 hk (.inl rfl));have n1_:=am (hb);have n2_:=am (hi);clear HK;clear HB;clear HI0;have HK:=n0_;have HB:=n1_;have HI0:=n2_;clear n0_ n1_ n2_;(try clear hb);(try clear hb2);(try clear hk);(try clear hi);have p13:0≤(t682:Int):=of_decide_eq_true Z5;have q13:t682<(a2.size:Int):=of_decide_eq_true Z5;have hx13:=bt_at a2 t682;replace p13:=eq_true p13;replace q13:=eq_true q13)|((with_reducible refine gd_ 32 rfl ?_);(try(refine gate_guard (by rfl) ?_;dsimp only));refine Kd.R_lit (Kd.int .u8) _ 5 ?hg (N:=32) ?hd (xs:=([bt a2 t682]:List Int)) (inner:=[.int .u8 (bt a2 t682)]) (ok:=fun _=>True) (okp:=fun _=>True) ?hr ?hp (fun _ hk=>hk) trivial (Below.refl _ _) (Nat.le_refl _) (by simp) ?_;(case hd=>rfl);(case hg=>rfl);(case hr=>first|(go_simp;done)|(go_simp;rfl));(case hp=>exact(Reps.one (show Kd.M (Kd.int .u8) _ _ _ (bt a2 t682) [.int .u8 (bt a2 t682)]from rfl) (Reps.none _ _)));intro v686 w24 ho25 hb hg_ hnew_;clear hg_ hnew_;(first|rw[←Ny_a.1]at ho25|(simp only[Int.reduceToNat]at ho25;rw[←Ny_a.1]at ho25));have n0_:=am (Kd.R_lower ho25 (keep_size (w:=w) (g:=g) (row:=none) Z4));have n1_:=am (IsS58.below (Z2 HI0) hb);have n2_:=am (KeepBut.trans Z4 (KeepBut.of_below hb g none) (.inl rfl));have n3_:=bw_ hb;clear HI0;clear HK;clear HB;have HOoa:=n0_;have HI0:=n1_;have HK:=n2_;have HB:=n3_;clear n0_ n1_ n2_ n3_;clear hb ho25;have hcv26:=own_string (P:=Tryz.prog) Tryz.underlying22 Tryz.underlying5 Tryz.underlying9 (Kd.own_of_R HOoa.1))|(go_at_call 56;(with_reducible refine(spec_l1Cur_pick.calls g s0_0 t683 t684 3 t688 t689 t690 w0 _ ?side1 ?side2 A14.1).mono ?_);(case side1=>exact(Z2 HI0));(case side2=>exact ZB);rintro e w27 ⟨rfl,hi,hb,hk⟩;have n0_:=am (Kd.R_mono (Kd.R_keep (IsS58.apart (show IsS58 w0 _ g s0_0 t683 t684 from(Z2 HI0)) (Z1 HOoa) (by decide)) hk (fun _ h=>h.2)) (fun _ h=>h.1));have n1_:=am (KeepBut.trans Z4 hk (.inl rfl));have n2_:=am (hb);have n3_:=am (hi);clear HOoa;clear HK;clear HB;clear HI0;have HOoa:=n0_;have HK:=n1_;have HB:=n2_;have HI0:=n3_;clear n0_ n1_ n2_ n3_;(try clear hb);(try clear hb2);(try clear hk);(try clear hi)));try go_wp2_with (first|(go_at_call 56;(with_reducible refine(spec_l1Cur_pick.calls g s0_0 x1001_1 x1002_1 (x1_1.size:Int) t679 t680 t681 w0 _ ?side1 ?side2 A9.1).mono ?_);(case side1=>exact(Z2 HI0));(case side2=>exact ZB);rintro e w22 ⟨rfl,hi,hb,hk⟩;replace HK:=am (KeepBut.trans Z4 hk (.inl rfl));replace HB:=am hb;replace HI0:=am hi;clear hb hk hi)|(go_at_call 56;(with_reducible refine(spec_l1Cur_pick.calls g s0_0 t680 t681 (a2.size:Int) t682 t683 t684 w0 _ ?side1 ?side2 A10.1).mono ?_);(case side1=>exact(Z2 HI0));(case side2=>exact ZB);rintro e w23 ⟨rfl,hi,hb,hk⟩;replace HK:=am (KeepBut.trans Z4 hk (.inl rfl));replace HB:=am hb;replace HI0:=am hi;clear hb hk hi;have p13:0≤(t682:Int):=of_decide_eq_true Z5;have q13:t682<(a2.size:Int):=of_decide_eq_true Z5;have hx13:=bt_at a2 t682;replace p13:=eq_true p13;replace q13:=eq_true q13)|((with_reducible refine gd_ 32 rfl ?_);(try(refine gate_guard (by rfl) ?_;dsimp only));refine Kd.R_lit (Kd.int .u8) _ 5 ?hg (N:=32) ?hd (xs:=([bt a2 t682]:List Int)) (inner:=[.int .u8 (bt a2 t682)]) (ok:=fun _=>True) (okp:=fun _=>True) ?hr ?hp (fun _ hk=>hk) trivial (Below.refl _ _) (Nat.le_refl _) (by simp) ?_;(case hd=>rfl);(case hg=>rfl);(case hr=>first|(go_simp;done)|(go_simp;rfl));(case hp=>exact(Reps.one (show Kd.M (Kd.int .u8) _ _ _ (bt a2 t682) [.int .u8 (bt a2 t682)]from rfl) (Reps.none _ _)));intro v686 w24 ho25 hb hg_ hnew_;clear hg_ hnew_;(first|rw[←Ny_a.1]at ho25|(simp only[Int.reduceToNat]at ho25;rw[←Ny_a.1]at ho25));have HOoa:=am (Kd.R_lower ho25 (keep_size (w:=w) (g:=g) (row:=none) Z4));replace HK:=am (KeepBut.trans Z4 (KeepBut.of_below hb g none) (.inl rfl));replace HB:=bw_ hb;replace HI0:=am (IsS58.below (Z2 HI0) hb);clear hb ho25;have hcv26:=own_string (P:=Tryz.prog) Tryz.underlying22 Tryz.underlying5 Tryz.underlying9 (Kd.own_of_R HOoa.1))|(go_at_call 56;(with_reducible refine(spec_l1Cur_pick.calls g s0_0 t683 t684 3 t688 t689 t690 w0 _ ?side1 ?side2 A14.1).mono ?_);(case side1=>exact(Z2 HI0));(case side2=>exact ZB);rintro e w27 ⟨rfl,hi,hb,hk⟩;replace HOoa:=am (Kd.R_mono (Kd.R_keep (IsS58.apart (show IsS58 w0 _ g s0_0 t683 t684 from(Z2 HI0)) (Z1 HOoa) (by decide)) hk (fun _ h=>h.2)) (fun _ h=>h.1));replace HK:=am (KeepBut.trans Z4 hk (.inl rfl));replace HB:=am hb;replace HI0:=am hi;clear hb hk hi)))
  go_roundg kj5
  case measure=>have:=HK1.1;have:=HJ5.1;omega
  exact⟨(((x1_1.extract 0 (t679:Int).toNat)++(strOfNums y_a))++(x1_1.extract (t679:Int).toNat x1_1.size)),(wrap64 (x7_1-1)),(t689),(t690),Z7,Z7,H',⟨(by have:=HK1.1;have:=HJ5.1;omega)⟩,⟨(Z2 HI0)⟩,⟨Z4⟩,⟨ZB⟩⟩
 rw[if_neg c15]at H
 obtain⟨c15b0,c15b1⟩:=ne2_ c15
 by_cases c28:t688=1
 rotate_left
 ·
  rw[if_neg c28]at H
  obtain⟨c28b0,c28b1⟩:=ne2_ c28
  obtain⟨c42,H⟩:=ip_ H
  have c42b0:=eq_true c42
  have c42b1:=decide_eq_true c42
  clear c42
  obtain⟨c43,H⟩:=ip_ H
  have c43b0:=eq_true c43
  have c43b1:=decide_eq_true c43
  clear c43
  obtain⟨ji44,hji44⟩:∃j_:Int,(wrap64 (t679+1))=j_:=⟨_,rfl⟩
  replace H:(if 0≤(ji44)then(if(ji44)≤(x1_1.size:Int)then(if(x1_1.extract 0 (t679:Int).toNat).size+(x1_1.extract ((ji44):Int).toNat x1_1.size).size≤9223372036854775807 then(spec_l1Cur_spoilt.l0 kj5 ((x1_1.extract 0 (t679:Int).toNat)++(x1_1.extract ((ji44):Int).toNat x1_1.size)) a2 (wrap64 (x7_1-1)) s0_0 t689 t690)else(none))else(none))else(none))=some (r1,r2,r3):=by first|(rw[hji44]at H;exact H)|(simp only[hji44]at H ⊢;exact H)
  (try rw[hji44]at A9)
  (try rw[hji44]at A10)
  (try rw[hji44]at A14)
  have hji44w:(IntKind.i64.wrap (t679+1))=ji44:=(i64_w _).trans hji44
  obtain⟨c45,H⟩:=ip_ H
  have c45b0:=eq_true c45
  have c45b1:=decide_eq_true c45
  clear c45
  obtain⟨c46,H⟩:=ip_ H
  have c46b0:=eq_true c46
  have c46b1:=decide_eq_true c46
  clear c46
  obtain⟨c47,H⟩:=ip_ H
  have c47b0:=eq_true c47
  have c47b1:=decide_eq_true c47
  try have c47b2:(9223372036854775807<(x1_1.extract 0 (t679:Int).toNat).size+(x1_1.extract ((ji44):Int).toNat x1_1.size).size)=False:=eq_false (Nat.not_lt.2 c47)
  have H':=am H
  clear H
  go_wp2_with (first|(go_at_call 56;(with_reducible refine(spec_l1Cur_pick.calls g s0_0 x1001_1 x1002_1 (x1_1.size:Int) t679 t680 t681 w0 _ ?side1 ?side2 A9.1).mono ?_);(case side1=>exact(Z2 HI0));(case side2=>exact ZB);rintro e w48 ⟨rfl,hi,hb,hk⟩;replace HK:=am (KeepBut.trans Z4 hk (.inl rfl));replace HB:=am hb;replace HI0:=am hi;clear hb hk hi)|(go_at_call 56;(with_reducible refine(spec_l1Cur_pick.calls g s0_0 t680 t681 (a2.size:Int) t682 t683 t684 w0 _ ?side1 ?side2 A10.1).mono ?_);(case side1=>exact(Z2 HI0));(case side2=>exact ZB);rintro e w49 ⟨rfl,hi,hb,hk⟩;replace HK:=am (KeepBut.trans Z4 hk (.inl rfl));replace HB:=am hb;replace HI0:=am hi;clear hb hk hi;have p13:0≤(t682:Int):=of_decide_eq_true Z5;have q13:t682<(a2.size:Int):=of_decide_eq_true Z5;have hx13:=bt_at a2 t682;replace p13:=eq_true p13;replace q13:=eq_true q13)|((with_reducible refine gd_ 32 rfl ?_);(try(refine gate_guard (by rfl) ?_;dsimp only));refine Kd.R_lit (Kd.int .u8) _ 5 ?hg (N:=32) ?hd (xs:=([bt a2 t682]:List Int)) (inner:=[.int .u8 (bt a2 t682)]) (ok:=fun _=>True) (okp:=fun _=>True) ?hr ?hp (fun _ hk=>hk) trivial (Below.refl _ _) (Nat.le_refl _) (by simp) ?_;(case hd=>rfl);(case hg=>rfl);(case hr=>first|(go_simp;done)|(go_simp;rfl));(case hp=>exact(Reps.one (show Kd.M (Kd.int .u8) _ _ _ (bt a2 t682) [.int .u8 (bt a2 t682)]from rfl) (Reps.none _ _)));intro v686 w50 ho51 hb hg_ hnew_;clear hg_ hnew_;(first|rw[←Ny_a.1]at ho51|(simp only[Int.reduceToNat]at ho51;rw[←Ny_a.1]at ho51));have HOoa:=am (Kd.R_lower ho51 (keep_size (w:=w) (g:=g) (row:=none) Z4));replace HK:=am (KeepBut.trans Z4 (KeepBut.of_below hb g none) (.inl rfl));replace HB:=bw_ hb;replace HI0:=am (IsS58.below (Z2 HI0) hb);clear hb ho51;have hcv52:=own_string (P:=Tryz.prog) Tryz.underlying22 Tryz.underlying5 Tryz.underlying9 (Kd.own_of_R HOoa.1))|(go_at_call 56;(with_reducible refine(spec_l1Cur_pick.calls g s0_0 t683 t684 3 t688 t689 t690 w0 _ ?side1 ?side2 A14.1).mono ?_);(case side1=>exact(Z2 HI0));(case side2=>exact ZB);rintro e w53 ⟨rfl,hi,hb,hk⟩;replace HOoa:=am (Kd.R_mono (Kd.R_keep (IsS58.apart (show IsS58 w0 _ g s0_0 t683 t684 from(Z2 HI0)) (Z1 HOoa) (by decide)) hk (fun _ h=>h.2)) (fun _ h=>h.1));replace HK:=am (KeepBut.trans Z4 hk (.inl rfl));replace HB:=am hb;replace HI0:=am hi;clear hb hk hi))
  repeat(go_quiet (first|(go_at_call 56;(with_reducible refine(spec_l1Cur_pick.calls g s0_0 x1001_1 x1002_1 (x1_1.size:Int) t679 t680 t681 w0 _ ?side1 ?side2 A9.1).mono ?_);(case side1=>exact(Z2 HI0));(case side2=>exact ZB);rintro e w48 ⟨rfl,hi,hb,hk⟩;have n0_:=am (KeepBut.trans Z4 hk (.inl rfl));have n1_:=am (hb);have n2_:=am (hi);clear HK;clear HB;clear HI0;have HK:=n0_;have HB:=n1_;have HI0:=n2_;clear n0_ n1_ n2_;(try clear hb);(try clear hb2);(try clear hk);(try clear hi))|(go_at_call 56;(with_reducible refine(spec_l1Cur_pick.calls g s0_0 t680 t681 (a2.size:Int) t682 t683 t684 w0 _ ?side1 ?side2 A10.1).mono ?_);(case side1=>exact(Z2 HI0));(case side2=>exact ZB);rintro e w49 ⟨rfl,hi,hb,hk⟩;have n0_:=am (KeepBut.trans Z4 hk (.inl rfl));have n1_:=am (hb);have n2_:=am (hi);clear HK;clear HB;clear HI0;have HK:=n0_;have HB:=n1_;have HI0:=n2_;clear n0_ n1_ n2_;(try clear hb);(try clear hb2);(try clear hk);(try clear hi);have p13:0≤(t682:Int):=of_decide_eq_true Z5;have q13:t682<(a2.size:Int):=of_decide_eq_true Z5;have hx13:=bt_at a2 t682;replace p13:=eq_true p13;replace q13:=eq_true q13)|((with_reducible refine gd_ 32 rfl ?_);(try(refine gate_guard (by rfl) ?_;dsimp only));refine Kd.R_lit (Kd.int .u8) _ 5 ?hg (N:=32) ?hd (xs:=([bt a2 t682]:List Int)) (inner:=[.int .u8 (bt a2 t682)]) (ok:=fun _=>True) (okp:=fun _=>True) ?hr ?hp (fun _ hk=>hk) trivial (Below.refl _ _) (Nat.le_refl _) (by simp) ?_;(case hd=>rfl);(case hg=>rfl);(case hr=>first|(go_simp;done)|(go_simp;rfl));(case hp=>exact(Reps.one (show Kd.M (Kd.int .u8) _ _ _ (bt a2 t682) [.int .u8 (bt a2 t682)]from rfl) (Reps.none _ _)));intro v686 w50 ho51 hb hg_ hnew_;clear hg_ hnew_;(first|rw[←Ny_a.1]at ho51|(simp only[Int.reduceToNat]at ho51;rw[←Ny_a.1]at ho51));have n0_:=am (Kd.R_lower ho51 (keep_size (w:=w) (g:=g) (row:=none) Z4));have n1_:=am (IsS58.below (Z2 HI0) hb);have n2_:=am (KeepBut.trans Z4 (KeepBut.of_below hb g none) (.inl rfl));have n3_:=bw_ hb;clear HI0;clear HK;clear HB;have HOoa:=n0_;have HI0:=n1_;have HK:=n2_;have HB:=n3_;clear n0_ n1_ n2_ n3_;clear hb ho51;have hcv52:=own_string (P:=Tryz.prog) Tryz.underlying22 Tryz.underlying5 Tryz.underlying9 (Kd.own_of_R HOoa.1))|(go_at_call 56;(with_reducible refine(spec_l1Cur_pick.calls g s0_0 t683 t684 3 t688 t689 t690 w0 _ ?side1 ?side2 A14.1).mono ?_);(case side1=>exact(Z2 HI0));(case side2=>exact ZB);rintro e w53 ⟨rfl,hi,hb,hk⟩;have n0_:=am (Kd.R_mono (Kd.R_keep (IsS58.apart (show IsS58 w0 _ g s0_0 t683 t684 from(Z2 HI0)) (Z1 HOoa) (by decide)) hk (fun _ h=>h.2)) (fun _ h=>h.1));have n1_:=am (KeepBut.trans Z4 hk (.inl rfl));have n2_:=am (hb);have n3_:=am (hi);clear HOoa;clear HK;clear HB;clear HI0;have HOoa:=n0_;have HK:=n1_;have HB:=n2_;have HI0:=n3_;clear n0_ n1_ n2_ n3_;(try clear hb);(try clear hb2);(try clear hk);(try clear hi)));try go_wp2_with (first|(go_at_call 56;(with_reducible refine(spec_l1Cur_pick.calls g s0_0 x1001_1 x1002_1 (x1_1.size:Int) t679 t680 t681 w0 _ ?side1 ?side2 A9.1).mono ?_);(case side1=>exact(Z2 HI0));(case side2=>exact ZB);rintro e w48 ⟨rfl,hi,hb,hk⟩;replace HK:=am (KeepBut.trans Z4 hk (.inl rfl));replace HB:=am hb;replace HI0:=am hi;clear hb hk hi)|(go_at_call 56;(with_reducible refine(spec_l1Cur_pick.calls g s0_0 t680 t681 (a2.size:Int) t682 t683 t684 w0 _ ?side1 ?side2 A10.1).mono ?_);(case side1=>exact(Z2 HI0));(case side2=>exact ZB);rintro e w49 ⟨rfl,hi,hb,hk⟩;replace HK:=am (KeepBut.trans Z4 hk (.inl rfl));replace HB:=am hb;replace HI0:=am hi;clear hb hk hi;have p13:0≤(t682:Int):=of_decide_eq_true Z5;have q13:t682<(a2.size:Int):=of_decide_eq_true Z5;have hx13:=bt_at a2 t682;replace p13:=eq_true p13;replace q13:=eq_true q13)|((with_reducible refine gd_ 32 rfl ?_);(try(refine gate_guard (by rfl) ?_;dsimp only));refine Kd.R_lit (Kd.int .u8) _ 5 ?hg (N:=32) ?hd (xs:=([bt a2 t682]:List Int)) (inner:=[.int .u8 (bt a2 t682)]) (ok:=fun _=>True) (okp:=fun _=>True) ?hr ?hp (fun _ hk=>hk) trivial (Below.refl _ _) (Nat.le_refl _) (by simp) ?_;(case hd=>rfl);(case hg=>rfl);(case hr=>first|(go_simp;done)|(go_simp;rfl));(case hp=>exact(Reps.one (show Kd.M (Kd.int .u8) _ _ _ (bt a2 t682) [.int .u8 (bt a2 t682)]from rfl) (Reps.none _ _)));intro v686 w50 ho51 hb hg_ hnew_;clear hg_ hnew_;(first|rw[←Ny_a.1]at ho51|(simp only[Int.reduceToNat]at ho51;rw[←Ny_a.1]at ho51));have HOoa:=am (Kd.R_lower ho51 (keep_size (w:=w) (g:=g) (row:=none) Z4));replace HK:=am (KeepBut.trans Z4 (KeepBut.of_below hb g none) (.inl rfl));replace HB:=bw_ hb;replace HI0:=am (IsS58.below (Z2 HI0) hb);clear hb ho51;have hcv52:=own_string (P:=Tryz.prog) Tryz.underlying22 Tryz.underlying5 Tryz.underlying9 (Kd.own_of_R HOoa.1))|(go_at_call 56;(with_reducible refine(spec_l1Cur_pick.calls g s0_0 t683 t684 3 t688 t689 t690 w0 _ ?side1 ?side2 A14.1).mono ?_);(case side1=>exact(Z2 HI0));(case side2=>exact ZB);rintro e w53 ⟨rfl,hi,hb,hk⟩;replace HOoa:=am (Kd.R_mono (Kd.R_keep (IsS58.apart (show IsS58 w0 _ g s0_0 t683 t684 from(Z2 HI0)) (Z1 HOoa) (by decide)) hk (fun _ h=>h.2)) (fun _ h=>h.1));replace HK:=am (KeepBut.trans Z4 hk (.inl rfl));replace HB:=am hb;replace HI0:=am hi;clear hb hk hi)))
  go_roundg kj5
  case measure=>have:=HK1.1;have:=HJ5.1;omega
  exact⟨((x1_1.extract 0 (t679:Int).toNat)++(x1_1.extract ((ji44):Int).toNat x1_1.size)),(wrap64 (x7_1-1)),(t689),(t690),(by first|rfl|(simp;done)|(simp only[←hji44]<;>(first|rfl|simp))|(simp[*];done)),Z7,H',⟨(by have:=HK1.1;have:=HJ5.1;omega)⟩,⟨(Z2 HI0)⟩,⟨Z4⟩,⟨ZB⟩⟩
 rw[if_pos c28]at H
 obtain⟨c28b0,c28b1⟩:=eq2_ c28
 clear c28
 obtain⟨c29,H⟩:=ip_ H
 have c29b0:=eq_true c29
 have c29b1:=decide_eq_true c29
 clear c29
 obtain⟨c30,H⟩:=ip_ H
 have c30b0:=eq_true c30
 have c30b1:=decide_eq_true c30
 clear c30
 obtain⟨c31,H⟩:=ip_ H
 have c31b0:=eq_true c31
 have c31b1:=decide_eq_true c31
 try have c31b2:(9223372036854775807<(x1_1.extract 0 (t679:Int).toNat).size+(strOfNums y_a).size)=False:=eq_false (Nat.not_lt.2 c31)
 obtain⟨ji32,hji32⟩:∃j_:Int,(wrap64 (t679+1))=j_:=⟨_,rfl⟩
 replace H:(if 0≤(ji32)then(if(ji32)≤(x1_1.size:Int)then(if((x1_1.extract 0 (t679:Int).toNat)++(strOfNums y_a)).size+(x1_1.extract ((ji32):Int).toNat x1_1.size).size≤9223372036854775807 then(spec_l1Cur_spoilt.l0 kj5 (((x1_1.extract 0 (t679:Int).toNat)++(strOfNums y_a))++(x1_1.extract ((ji32):Int).toNat x1_1.size)) a2 (wrap64 (x7_1-1)) s0_0 t689 t690)else(none))else(none))else(none))=some (r1,r2,r3):=by first|(rw[hji32]at H;exact H)|(simp only[hji32]at H ⊢;exact H)
 (try rw[hji32]at A9)
 (try rw[hji32]at A10)
 (try rw[hji32]at A14)
 have hji32w:(IntKind.i64.wrap (t679+1))=ji32:=(i64_w _).trans hji32
 obtain⟨c33,H⟩:=ip_ H
 have c33b0:=eq_true c33
 have c33b1:=decide_eq_true c33
 clear c33
 obtain⟨c34,H⟩:=ip_ H
 have c34b0:=eq_true c34
 have c34b1:=decide_eq_true c34
 clear c34
 obtain⟨c35,H⟩:=ip_ H
 have c35b0:=eq_true c35
 have c35b1:=decide_eq_true c35
 try have c35b2:(9223372036854775807<((x1_1.extract 0 (t679:Int).toNat)++(strOfNums y_a)).size+(x1_1.extract ((ji32):Int).toNat x1_1.size).size)=False:=eq_false (Nat.not_lt.2 c35)
 have H':=am H
 clear H
 go_wp2_with (first|(go_at_call 56;(with_reducible refine(spec_l1Cur_pick.calls g s0_0 x1001_1 x1002_1 (x1_1.size:Int) t679 t680 t681 w0 _ ?side1 ?side2 A9.1).mono ?_);(case side1=>exact(Z2 HI0));(case side2=>exact ZB);rintro e w36 ⟨rfl,hi,hb,hk⟩;replace HK:=am (KeepBut.trans Z4 hk (.inl rfl));replace HB:=am hb;replace HI0:=am hi;clear hb hk hi)|(go_at_call 56;(with_reducible refine(spec_l1Cur_pick.calls g s0_0 t680 t681 (a2.size:Int) t682 t683 t684 w0 _ ?side1 ?side2 A10.1).mono ?_);(case side1=>exact(Z2 HI0));(case side2=>exact ZB);rintro e w37 ⟨rfl,hi,hb,hk⟩;replace HK:=am (KeepBut.trans Z4 hk (.inl rfl));replace HB:=am hb;replace HI0:=am hi;clear hb hk hi;have p13:0≤(t682:Int):=of_decide_eq_true Z5;have q13:t682<(a2.size:Int):=of_decide_eq_true Z5;have hx13:=bt_at a2 t682;replace p13:=eq_true p13;replace q13:=eq_true q13)|((with_reducible refine gd_ 32 rfl ?_);(try(refine gate_guard (by rfl) ?_;dsimp only));refine Kd.R_lit (Kd.int .u8) _ 5 ?hg (N:=32) ?hd (xs:=([bt a2 t682]:List Int)) (inner:=[.int .u8 (bt a2 t682)]) (ok:=fun _=>True) (okp:=fun _=>True) ?hr ?hp (fun _ hk=>hk) trivial (Below.refl _ _) (Nat.le_refl _) (by simp) ?_;(case hd=>rfl);(case hg=>rfl);(case hr=>first|(go_simp;done)|(go_simp;rfl));(case hp=>exact(Reps.one (show Kd.M (Kd.int .u8) _ _ _ (bt a2 t682) [.int .u8 (bt a2 t682)]from rfl) (Reps.none _ _)));intro v686 w38 ho39 hb hg_ hnew_;clear hg_ hnew_;(first|rw[←Ny_a.1]at ho39|(simp only[Int.reduceToNat]at ho39;rw[←Ny_a.1]at ho39));have HOoa:=am (Kd.R_lower ho39 (keep_size (w:=w) (g:=g) (row:=none) Z4));replace HK:=am (KeepBut.trans Z4 (KeepBut.of_below hb g none) (.inl rfl));replace HB:=bw_ hb;replace HI0:=am (IsS58.below (Z2 HI0) hb);clear hb ho39;have hcv40:=own_string (P:=Tryz.prog) Tryz.underlying22 Tryz.underlying5 Tryz.underlying9 (Kd.own_of_R HOoa.1))|(go_at_call 56;(with_reducible refine(spec_l1Cur_pick.calls g s0_0 t683 t684 3 t688 t689 t690 w0 _ ?side1 ?side2 A14.1).mono ?_);(case side1=>exact(Z2 HI0));(case side2=>exact ZB);rintro e w41 ⟨rfl,hi,hb,hk⟩;replace HOoa:=am (Kd.R_mono (Kd.R_keep (IsS58.apart (show IsS58 w0 _ g s0_0 t683 t684 from(Z2 HI0)) (Z1 HOoa) (by decide)) hk (fun _ h=>h.2)) (fun _ h=>h.1));replace HK:=am (KeepBut.trans Z4 hk (.inl rfl));replace HB:=am hb;replace HI0:=am hi;clear hb hk hi))
 repeat(go_quiet (first|(go_at_call 56;(with_reducible refine(spec_l1Cur_pick.calls g s0_0 x1001_1 x1002_1 (x1_1.size:Int) t679 t680 t681 w0 _ ?side1 ?side2 A9.1).mono ?_);(case side1=>exact(Z2 HI0));(case side2=>exact ZB);rintro e w36 ⟨rfl,hi,hb,hk⟩;have n0_:=am (KeepBut.trans Z4 hk (.inl rfl));have n1_:=am (hb);have n2_:=am (hi);clear HK;clear HB;clear HI0;have HK:=n0_;have HB:=n1_;have HI0:=n2_;clear n0_ n1_ n2_;(try clear hb);(try clear hb2);(try clear hk);(try clear hi))|(go_at_call 56;(with_reducible refine(spec_l1Cur_pick.calls g s0_0 t680 t681 (a2.size:Int) t682 t683 t684 w0 _ ?side1 ?side2 A10.1).mono ?_);(case side1=>exact(Z2 HI0));(case side2=>exact ZB);rintro e w37 ⟨rfl,hi,hb,hk⟩;have n0_:=am (KeepBut.trans Z4 hk (.inl rfl));have n1_:=am (hb);have n2_:=am (hi);clear HK;clear HB;clear HI0;have HK:=n0_;have HB:=n1_;have HI0:=n2_;clear n0_ n1_ n2_;(try clear hb);(try clear hb2);(try clear hk);(try clear hi);have p13:0≤(t682:Int):=of_decide_eq_true Z5;have q13:t682<(a2.size:Int):=of_decide_eq_true Z5;have hx13:=bt_at a2 t682;replace p13:=eq_true p13;replace q13:=eq_true q13)|((with_reducible refine gd_ 32 rfl ?_);(try(refine gate_guard (by rfl) ?_;dsimp only));refine Kd.R_lit (Kd.int .u8) _ 5 ?hg (N:=32) ?hd (xs:=([bt a2 t682]:List Int)) (inner:=[.int .u8 (bt a2 t682)]) (ok:=fun _=>True) (okp:=fun _=>True) ?hr ?hp (fun _ hk=>hk) trivial (Below.refl _ _) (Nat.le_refl _) (by simp) ?_;(case hd=>rfl);(case hg=>rfl);(case hr=>first|(go_simp;done)|(go_simp;rfl));(case hp=>exact(Reps.one (show Kd.M (Kd.int .u8) _ _ _ (bt a2 t682) [.int .u8 (bt a2 t682)]from rfl) (Reps.none _ _)));intro v686 w38 ho39 hb hg_ hnew_;clear hg_ hnew_;(first|rw[←Ny_a.1]at ho39|(simp only[Int.reduceToNat]at ho39;rw[←Ny_a.1]at ho39));have n0_:=am (Kd.R_lower ho39 (keep_size (w:=w) (g:=g) (row:=none) Z4));have n1_:=am (IsS58.below (Z2 HI0) hb);have n2_:=am (KeepBut.trans Z4 (KeepBut.of_below hb g none) (.inl rfl));have n3_:=bw_ hb;clear HI0;clear HK;clear HB;have HOoa:=n0_;have HI0:=n1_;have HK:=n2_;have HB:=n3_;clear n0_ n1_ n2_ n3_;clear hb ho39;have hcv40:=own_string (P:=Tryz.prog) Tryz.underlying22 Tryz.underlying5 Tryz.underlying9 (Kd.own_of_R HOoa.1))|(go_at_call 56;(with_reducible refine(spec_l1Cur_pick.calls g s0_0 t683 t684 3 t688 t689 t690 w0 _ ?side1 ?side2 A14.1).mono ?_);(case side1=>exact(Z2 HI0));(case side2=>exact ZB);rintro e w41 ⟨rfl,hi,hb,hk⟩;have n0_:=am (Kd.R_mono (Kd.R_keep (IsS58.apart (show IsS58 w0 _ g s0_0 t683 t684 from(Z2 HI0)) (Z1 HOoa) (by decide)) hk (fun _ h=>h.2)) (fun _ h=>h.1));have n1_:=am (KeepBut.trans Z4 hk (.inl rfl));have n2_:=am (hb);have n3_:=am (hi);clear HOoa;clear HK;clear HB;clear HI0;have HOoa:=n0_;have HK:=n1_;have HB:=n2_;have HI0:=n3_;clear n0_ n1_ n2_ n3_;(try clear hb);(try clear hb2);(try clear hk);(try clear hi)));try go_wp2_with (first|(go_at_call 56;(with_reducible refine(spec_l1Cur_pick.calls g s0_0 x1001_1 x1002_1 (x1_1.size:Int) t679 t680 t681 w0 _ ?side1 ?side2 A9.1).mono ?_);(case side1=>exact(Z2 HI0));(case side2=>exact ZB);rintro e w36 ⟨rfl,hi,hb,hk⟩;replace HK:=am (KeepBut.trans Z4 hk (.inl rfl));replace HB:=am hb;replace HI0:=am hi;clear hb hk hi)|(go_at_call 56;(with_reducible refine(spec_l1Cur_pick.calls g s0_0 t680 t681 (a2.size:Int) t682 t683 t684 w0 _ ?side1 ?side2 A10.1).mono ?_);(case side1=>exact(Z2 HI0));(case side2=>exact ZB);rintro e w37 ⟨rfl,hi,hb,hk⟩;replace HK:=am (KeepBut.trans Z4 hk (.inl rfl));replace HB:=am hb;replace HI0:=am hi;clear hb hk hi;have p13:0≤(t682:Int):=of_decide_eq_true Z5;have q13:t682<(a2.size:Int):=of_decide_eq_true Z5;have hx13:=bt_at a2 t682;replace p13:=eq_true p13;replace q13:=eq_true q13)|((with_reducible refine gd_ 32 rfl ?_);(try(refine gate_guard (by rfl) ?_;dsimp only));refine Kd.R_lit (Kd.int .u8) _ 5 ?hg (N:=32) ?hd (xs:=([bt a2 t682]:List Int)) (inner:=[.int .u8 (bt a2 t682)]) (ok:=fun _=>True) (okp:=fun _=>True) ?hr ?hp (fun _ hk=>hk) trivial (Below.refl _ _) (Nat.le_refl _) (by simp) ?_;(case hd=>rfl);(case hg=>rfl);(case hr=>first|(go_simp;done)|(go_simp;rfl));(case hp=>exact(Reps.one (show Kd.M (Kd.int .u8) _ _ _ (bt a2 t682) [.int .u8 (bt a2 t682)]from rfl) (Reps.none _ _)));intro v686 w38 ho39 hb hg_ hnew_;clear hg_ hnew_;(first|rw[←Ny_a.1]at ho39|(simp only[Int.reduceToNat]at ho39;rw[←Ny_a.1]at ho39));have HOoa:=am (Kd.R_lower ho39 (keep_size (w:=w) (g:=g) (row:=none) Z4));replace HK:=am (KeepBut.trans Z4 (KeepBut.of_below hb g none) (.inl rfl));replace HB:=bw_ hb;replace HI0:=am (IsS58.below (Z2 HI0) hb);clear hb ho39;have hcv40:=own_string (P:=Tryz.prog) Tryz.underlying22 Tryz.underlying5 Tryz.underlying9 (Kd.own_of_R HOoa.1))|(go_at_call 56;(with_reducible refine(spec_l1Cur_pick.calls g s0_0 t683 t684 3 t688 t689 t690 w0 _ ?side1 ?side2 A14.1).mono ?_);(case side1=>exact(Z2 HI0));(case side2=>exact ZB);rintro e w41 ⟨rfl,hi,hb,hk⟩;replace HOoa:=am (Kd.R_mono (Kd.R_keep (IsS58.apart (show IsS58 w0 _ g s0_0 t683 t684 from(Z2 HI0)) (Z1 HOoa) (by decide)) hk (fun _ h=>h.2)) (fun _ h=>h.1));replace HK:=am (KeepBut.trans Z4 hk (.inl rfl));replace HB:=am hb;replace HI0:=am hi;clear hb hk hi)))
 go_roundg kj5
 case measure=>have:=HK1.1;have:=HJ5.1;omega
 exact⟨(((x1_1.extract 0 (t679:Int).toNat)++(strOfNums y_a))++(x1_1.extract ((ji32):Int).toNat x1_1.size)),(wrap64 (x7_1-1)),(t689),(t690),(by first|rfl|(simp;done)|(simp only[←hji32]<;>(first|rfl|simp))|(simp[*];done)),Z7,H',⟨(by have:=HK1.1;have:=HJ5.1;omega)⟩,⟨(Z2 HI0)⟩,⟨Z4⟩,⟨ZB⟩⟩
def spec_DrawParseCircle.j0:Nat→ByteArray→List Int→Int→Int→Option (ByteArray)
  |0,_,_,_,_=>none
  |k+1,x5,x692000,x692001,x692002=>(spec_l1Cur_one.f x692000 x692001 x692002 3).bind fun bt701=>(if bt701.1=true then((spec_l1Cur_spoilt.f k x692000 bt701.2.1 bt701.2.2 x5 (⟨#[48,49,50,51,45,32]⟩:ByteArray)).bind fun bt704=>(some bt704.1))else(some x5))
def spec_DrawParseCircle.f (k:Nat) (l0:List Int):Option (ByteArray):=(spec_l1Cur_circle.f k l0 0 0).bind fun bt692=>((spec_ciGood.f k bt692.1 bt692.2.1 bt692.2.2.1 bt692.2.2.2.1).bind fun t699=>(if t699=true then((spec_ciText.f k bt692.1 bt692.2.1 bt692.2.2.1 bt692.2.2.2.1).bind fun t700=>(spec_DrawParseCircle.j0 k t700 l0 bt692.2.2.2.2.1 bt692.2.2.2.2.2))else(spec_DrawParseCircle.j0 k (⟨#[49,32,45,49,32,48,32,48]⟩:ByteArray) l0 bt692.2.2.2.2.1 bt692.2.2.2.2.2)))
theorem spec_DrawParseCircle.mono_l:∀k,(∀y0 y1 y2 y3,LeO (spec_DrawParseCircle.j0 k y0 y1 y2 y3) (spec_DrawParseCircle.j0 (k+1) y0 y1 y2 y3))
  |0=>fun _ _ _ _ r h=>by simp[spec_DrawParseCircle.j0]at h
  |k+1=>by
    have ih0:=spec_DrawParseCircle.mono_l k
    · intro y0 y1 y2 y3
      unfold spec_DrawParseCircle.j0
      exact mo_
theorem spec_DrawParseCircle.mono:∀a0 k,LeO (spec_DrawParseCircle.f k a0) (spec_DrawParseCircle.f (k+1) a0):=by
  intro a0 k
  have ih0:=spec_DrawParseCircle.mono_l k
  unfold spec_DrawParseCircle.f
  exact mo_
set_option maxHeartbeats 8000000 in
set_option maxRecDepth 100000 in
theorem spec_DrawParseCircle.calls (k:Nat) (A0:Option Addr) (c0:Nat) (l0:List Int) (r:ByteArray) (w:World) (hr0:Kd.C (Kd.int .u8) w A0 l0.length l0) (hc0:l0.length≤c0) (h:spec_DrawParseCircle.f k l0=some r):
  Calls Tryz.prog 25 #[.slice A0 l0.length c0] w fun e w'=>e= .returned (.string r)∧Below w.heap.size w w':=by
 have hu58:=Tryz.underlying58
 have hu37:=Tryz.underlying37
 have HR0:=am hr0
 have HC0:=am hc0
 clear hr0 hc0
 have HB:=am (Below.refl w.heap.size w)
 have H:=h
 clear h
 unfold spec_DrawParseCircle.f at H
 obtain⟨⟨t692,t693,t694,t695,t696,t697⟩,A2,H⟩:=bs_ H
 try dsimp only at H
 obtain⟨t699,A3,H⟩:=bs_ H
 try dsimp only at H
 have HC4:=am H
 clear H
 go_enter Tryz.func25,Tryz.ntmps25
 go_upto_if 12 with(first|((with_reducible refine gd_ 8 rfl ?_);refine boxN_ 8 #[.slice A0 l0.length c0,.int .i64 0,.int .u64 0] 58 ?_;intro gboa hg w5 hbox hb;have HIoa:=am ((show IsS58 w _ gboa l0 0 0 from⟨_,_,hbox,(by rw[hg];exact zs_:w.heap.size≤gboa),HR0.1⟩));replace HB:=bw_ hb;clear hb hbox hg)|((with_reducible refine gc_ 55 rfl ?_);refine gM_ (some 10) Tryz.func55 (spec_l1Cur_circle.calls k gboa l0 0 0 t692 t693 t694 t695 t696 t697 w _ ?side1 ?side2 A2.1) ?_;(case side1=>exact(Z2 HIoa));(case side2=>exact ZB);rintro w6 ⟨hi,hb,hk⟩;replace HB:=am hb;replace HIoa:=am hi;clear hb hk hi)|((with_reducible refine gd_ 4 rfl ?_);refine boxN_ 4 #[.int .i64 0,.int .i64 0,.int .i64 0,.int .i64 0] 37 ?_;intro gbob hg w7 hbox hb;have BKob:=am hbox;have GWob:=gG_ hg;have GEob:=gG_ hg;replace HB:=bw_ hb;have NBoa_ob:=am ((by rw[hg];exact Nat.ne_of_lt (IsS58.lt (show IsS58 w _ gboa l0 t696 t697 from(Z2 HIoa))):gboa≠gbob));have NBob_oa:=am ((by rw[hg];exact Nat.ne_of_gt (IsS58.lt (show IsS58 w _ gboa l0 t696 t697 from(Z2 HIoa))):gbob≠gboa));replace HIoa:=am (IsS58.below (Z2 HIoa) hb);clear hb hbox hg;have hnb8:=NBob_oa.1;have hnc8:=NBoa_ob.1;obtain⟨_,_,_,_,_,_,_,_⟩:=cz4_ BKob)|((with_reducible refine gc_ 47 rfl ?_);refine gM_ (some 12) Tryz.func47 (spec_ciGood.calls k t692 t693 t694 t695 t699 _ A3.1) ?_;intro w10 hb;replace BKob:=bk_ BKob hb;replace HB:=bw_ hb;replace HIoa:=am (IsS58.below (show IsS58 w ((((w7.setCell ⟨gbob,0,none⟩ (.int .i64 t692)).setCell ⟨gbob,1,none⟩ (.int .i64 t693)).setCell ⟨gbob,2,none⟩ (.int .i64 t694)).setCell ⟨gbob,3,none⟩ (.int .i64 t695)) gboa l0 t696 t697 from(Z57 HIoa)) hb);clear hb))
 (try simp only[Act.put,List.setIfInBounds_toArray,List.set_cons_zero,List.set_cons_succ])
 go_cut[5] (fun v5 wc=>∃(kq:Nat) (x5_3:ByteArray),v5= .string x5_3∧Aside0 (spec_DrawParseCircle.j0 kq x5_3 l0 t696 t697=some r)∧Aside0 (kq≤k)∧Aside0 (wc.heap[gbob]?=some (.cells #[.int .i64 t692,.int .i64 t693,.int .i64 t694,.int .i64 t695] 37 (0,0)))∧Aside0 (IsS58 w wc gboa l0 t696 t697)∧Aside0 (Below w.heap.size w wc))
 case first=>
  have H:=HC4.1
  clear HC4
  by_cases c11:t699=true
  rotate_left
  ·
   replace c11:=Bool.eq_false_iff.mpr c11
   subst c11
   rw[if_neg (show¬(false=true) by decide)]at H
   have H':=am H
   clear H
   go_wp2
   go_meet
   exact⟨_,((⟨#[49,32,45,49,32,48,32,48]⟩:ByteArray)),Z7,H',⟨Z35⟩,⟨(bb_ BKob)⟩,⟨(Z57 HIoa)⟩,⟨ZB⟩⟩
  subst c11
  rw[if_pos rfl]at H
  obtain⟨t700,A12,H⟩:=bs_ H
  try dsimp only at H
  have H':=am H
  clear H
  have hnb13:=NBob_oa.1
  have hnc13:=NBoa_ob.1
  have hcz14_0:w10.cell? ⟨gbob,0,none⟩=some (.int .i64 t692):=(blk_cell BKob.1 0).trans rfl
  have hcz14_1:w10.cell? ⟨gbob,1,none⟩=some (.int .i64 t693):=(blk_cell BKob.1 1).trans rfl
  have hcz14_2:w10.cell? ⟨gbob,2,none⟩=some (.int .i64 t694):=(blk_cell BKob.1 2).trans rfl
  have hcz14_3:w10.cell? ⟨gbob,3,none⟩=some (.int .i64 t695):=(blk_cell BKob.1 3).trans rfl
  have hfz14_0:=blk_frozen BKob.1 0
  have hfz14_1:=blk_frozen BKob.1 1
  have hfz14_2:=blk_frozen BKob.1 2
  have hfz14_3:=blk_frozen BKob.1 3
  go_wp2_with (first|((with_reducible refine gc_ 62 rfl ?_);refine gM_ (some 14) Tryz.func62 (spec_ciText.calls k t692 t693 t694 t695 t700 _ A12.1) ?_;intro w15 hb;replace BKob:=bk_ BKob hb;replace HB:=bw_ hb;replace HIoa:=am (IsS58.below (Z57 HIoa) hb);clear hb))
  go_meet
  exact⟨_,(t700),Z7,H',⟨Z35⟩,⟨(bb_ BKob)⟩,⟨(Z57 HIoa)⟩,⟨ZB⟩⟩
 clear HC4
 obtain⟨kq,x5_3,rfl,HA,HJ3,BKob,HIoa,HB⟩:=hcut
 obtain _|kj3:=kq
 ·
  exact absurd HA.out (by simp[spec_DrawParseCircle.j0])
 have H:=HA.out
 clear HA
 simp only[spec_DrawParseCircle.j0]at H
 obtain⟨⟨t701,t702,t703⟩,A16,H⟩:=bs_ H
 try dsimp only at H
 by_cases c17:t701=true
 rotate_left
 ·
  replace c17:=Bool.eq_false_iff.mpr c17
  subst c17
  rw[if_neg (show¬(false=true) by decide)]at H
  obtain rfl:=Option.some.inj H
  go_wp2_with (first|((with_reducible refine gc_ 28 rfl ?_);refine gM_ (some 16) Tryz.func28 (spec_l1Cur_one.calls gboa l0 t696 t697 3 false t702 t703 w _ ?side1 ?side2 A16.1) ?_;(case side1=>exact(Z57 HIoa));(case side2=>exact ZB);rintro w21 ⟨hi,hb,hk⟩;replace BKob:=am (KeepBut.blk hk (bb_ BKob) NBob_oa.1 (by simp));replace HB:=am hb;replace HIoa:=am hi;clear hb hk hi))
  go_ret
  exact⟨Z6,ZB⟩
 subst c17
 rw[if_pos rfl]at H
 obtain⟨⟨t704,t705,t706⟩,A18,H⟩:=bs_ H
 try dsimp only at H
 obtain rfl:=Option.some.inj H
 go_wp2_with (first|((with_reducible refine gc_ 28 rfl ?_);refine gM_ (some 16) Tryz.func28 (spec_l1Cur_one.calls gboa l0 t696 t697 3 true t702 t703 w _ ?side1 ?side2 A16.1) ?_;(case side1=>exact(Z57 HIoa));(case side2=>exact ZB);rintro w19 ⟨hi,hb,hk⟩;replace BKob:=am (KeepBut.blk hk (bb_ BKob) NBob_oa.1 (by simp));replace HB:=am hb;replace HIoa:=am hi;clear hb hk hi)|((with_reducible refine gc_ 65 rfl ?_);refine gM_ (some 19) Tryz.func65 (spec_l1Cur_spoilt.calls kj3 gboa l0 t702 t703 x5_3 (⟨#[48,49,50,51,45,32]⟩:ByteArray) t704 t705 t706 w _ ?side1 ?side2 A18.1) ?_;(case side1=>exact(Z57 HIoa));(case side2=>exact ZB);rintro w20 ⟨hi,hb,hk⟩;replace BKob:=am (KeepBut.blk hk (bb_ BKob) NBob_oa.1 (by simp));replace HB:=am hb;replace HIoa:=am hi;clear hb hk hi))
 go_ret
 exact⟨Z6,ZB⟩
def spec_l1Split.l0:Nat→ByteArray→Int→List ByteArray→Int→Int→Option (List ByteArray)
  |0,_,_,_,_,_=>none
  |k+1,x0,x1,x5,x6,x7=>if x7<(x0.size:Int)then(if 0≤x7 then(if(bt x0 x7)=x1 then(if 0≤x6 then(if x6≤x7 then(if x7≤(x0.size:Int)then(if x5.length<8796093022208 then(spec_l1Split.l0 k x0 x1 (x5++[x0.extract (x6:Int).toNat (x7:Int).toNat]) (wrap64 (x7+1)) (wrap64 (x7+1)))else(none))else(none))else(none))else(none))else(spec_l1Split.l0 k x0 x1 x5 x6 (wrap64 (x7+1))))else(none))else(if 0≤x6 then(if x6≤(x0.size:Int)then(if x5.length<8796093022208 then(some (x5++[x0.extract (x6:Int).toNat x0.size]))else(none))else(none))else(none))
def spec_l1Split.f (k:Nat) (a0:ByteArray) (a1:Int):Option (List ByteArray):=spec_l1Split.l0 k a0 a1 ([]:List ByteArray) 0 0
theorem spec_l1Split.mono_l:∀k,(∀y0 y1 y2 y3 y4,LeO (spec_l1Split.l0 k y0 y1 y2 y3 y4) (spec_l1Split.l0 (k+1) y0 y1 y2 y3 y4))
  |0=>fun _ _ _ _ _ r h=>by simp[spec_l1Split.l0]at h
  |k+1=>by
    have ih0:=spec_l1Split.mono_l k
    · intro y0 y1 y2 y3 y4
      unfold spec_l1Split.l0
      exact mo_
theorem spec_l1Split.mono:∀a0 a1 k,LeO (spec_l1Split.f k a0 a1) (spec_l1Split.f (k+1) a0 a1):=by
  intro a0 a1 k
  have ih0:=spec_l1Split.mono_l k
  unfold spec_l1Split.f
  exact mo_
set_option maxHeartbeats 8000000 in
set_option maxRecDepth 100000 in
theorem spec_l1Split.calls (k:Nat) (a0:ByteArray) (a1:Int) (r:List ByteArray) (w:World) (h:spec_l1Split.f k a0 a1=some r):
  Calls Tryz.prog 66 #[.string a0,.int .u8 a1] w fun e w'=>∃v0_:Value,e= .returned (v0_)∧Kd.R Kd.string 9 w' w.heap.size (fun _=>True) v0_ r∧Below w.heap.size w w':=by
 have HB:=am (Below.refl w.heap.size w)
 have H:=h
 clear h
 unfold spec_l1Split.f at H
 have H':=am H
 clear H
 go_enter Tryz.func66,Tryz.ntmps66
 go_wp2
 go_loopg [5,6,7] k (fun kq v5 v6 v7 w'=>∃(x5_1:List ByteArray) (x6_1:Int) (x7_1:Int),v6= .int .i64 x6_1∧v7= .int .i64 x7_1∧Aside0 (spec_l1Split.l0 kq a0 a1 x5_1 x6_1 x7_1=some r)∧Aside0 (kq≤k)∧Aside0 (Kd.R Kd.string 9 w' w.heap.size (fun _=>True) v5 x5_1)∧Aside0 (Below w.heap.size w w'))
 case atStart=>exact⟨(([]:List ByteArray)),(0),(0),Z7,Z7,H',⟨Nat.le_refl _⟩,⟨Z23⟩,⟨ZB⟩⟩
 clear H'
 obtain⟨x5_1,x6_1,x7_1,rfl,rfl,HA,HK1,HO_5,HB⟩:=hrel
 obtain _|k1:=gk
 ·
  exact absurd HA.out (by simp[spec_l1Split.l0])
 have H:=HA.out
 clear HA
 simp only[spec_l1Split.l0]at H
 by_cases c3:x7_1<(a0.size:Int)
 rotate_left
 ·
  rw[if_neg c3]at H
  have c3b0:=decide_eq_false c3
  clear c3
  obtain⟨c12,H⟩:=ip_ H
  have c12b0:=eq_true c12
  have c12b1:=decide_eq_true c12
  clear c12
  obtain⟨c13,H⟩:=ip_ H
  have c13b0:=eq_true c13
  have c13b1:=decide_eq_true c13
  clear c13
  obtain⟨c14,H⟩:=ip_ H
  have LMc14:=am c14
  clear c14
  obtain⟨y_a,hy_a⟩:∃y_:List ByteArray,y_=(x5_1++[a0.extract (x6_1:Int).toNat a0.size]):=⟨_,rfl⟩
  replace H:(some y_a)=some r:=Z8
  have Ny_a:=am hy_a
  clear hy_a
  obtain rfl:=Option.some.inj H
  go_wp2_with (first|((with_reducible refine gate_builtin (b:= .append) (xs:=#[.tmp 28,.tmp 32]) rfl ?_);at_builtin;refine Kd.R_append Kd.string (w0:=w) w.heap.size rfl (.tmp 28) (.tmp 32) 86 9 (.string ⟨#[]⟩) 16 rfl Tryz.underlying86 info9 rfl (by decide) (by omega) u5 x5_1 (a0.extract (x6_1:Int).toNat a0.size) [.string (a0.extract (x6_1:Int).toNat a0.size)] (fun _=>True) (fun _=>False) rfl rfl ?aP (fun _ hk=>hk.elim) ?aF ?aO ?aB ?aS ?aL ?_;(case aP=>exact rfl);(case aB=>exact ZB);(case aF=>exact(fun _ _=>trivial));(case aO=>exact(Z1 HO_5));(case aS=>exact zs_);(case aL=>have:=LMc14.out;omega);intro v711 w15 ho hb hg hat;rw[←Ny_a.1]at ho;replace HB:=am hb;have HOoa:=am ho;clear HO_5;clear ho hb hg hat))
  go_ret
  exact⟨_,Z6,(Z1 HOoa),ZB⟩
 rw[if_pos c3]at H
 have c3b0:=decide_eq_true c3
 clear c3
 obtain⟨c4,H⟩:=ip_ H
 have c4b0:=decide_eq_true c4
 clear c4
 by_cases c6:(bt a0 x7_1)=a1
 rotate_left
 ·
  rw[if_neg c6]at H
  obtain⟨c6b0,c6b1⟩:=ne2_ c6
  have H':=am H
  clear H
  have p5:0≤(x7_1:Int):=of_decide_eq_true Z5
  have q5:x7_1<(a0.size:Int):=of_decide_eq_true Z5
  have hx5:=bt_at a0 x7_1
  replace p5:=eq_true p5
  replace q5:=eq_true q5
  go_wp2
  go_roundg k1
  case measure=>have:=HK1.1;omega
  exact⟨(x5_1),(x6_1),(wrap64 (x7_1+1)),Z7,Z7,H',⟨Z34⟩,⟨(Z1 HO_5)⟩,⟨ZB⟩⟩
 rw[if_pos c6]at H
 obtain⟨c6b0,c6b1⟩:=eq2_ c6
 clear c6
 obtain⟨c7,H⟩:=ip_ H
 have c7b0:=eq_true c7
 have c7b1:=decide_eq_true c7
 clear c7
 obtain⟨c8,H⟩:=ip_ H
 have c8b0:=eq_true c8
 have c8b1:=decide_eq_true c8
 clear c8
 obtain⟨c9,H⟩:=ip_ H
 have c9b0:=eq_true c9
 have c9b1:=decide_eq_true c9
 clear c9
 obtain⟨c10,H⟩:=ip_ H
 have LMc10:=am c10
 clear c10
 obtain⟨y_b,hy_b⟩:∃y_:List ByteArray,y_=(x5_1++[a0.extract (x6_1:Int).toNat (x7_1:Int).toNat]):=⟨_,rfl⟩
 replace H:(spec_l1Split.l0 k1 a0 a1 y_b (wrap64 (x7_1+1)) (wrap64 (x7_1+1)))=some r:=Z14
 have Ny_b:=am hy_b
 clear hy_b
 have H':=am H
 clear H
 have p5:0≤(x7_1:Int):=of_decide_eq_true Z5
 have q5:x7_1<(a0.size:Int):=of_decide_eq_true Z5
 have hx5:=bt_at a0 x7_1
 replace p5:=eq_true p5
 replace q5:=eq_true q5
 go_wp2_with (first|((with_reducible refine gate_builtin (b:= .append) (xs:=#[.tmp 19,.tmp 24]) rfl ?_);at_builtin;refine Kd.R_append Kd.string (w0:=w) w.heap.size rfl (.tmp 19) (.tmp 24) 86 9 (.string ⟨#[]⟩) 16 rfl Tryz.underlying86 info9 rfl (by decide) (by omega) u5 x5_1 (a0.extract (x6_1:Int).toNat (x7_1:Int).toNat) [.string (a0.extract (x6_1:Int).toNat (x7_1:Int).toNat)] (fun _=>True) (fun _=>False) rfl rfl ?aP (fun _ hk=>hk.elim) ?aF ?aO ?aB ?aS ?aL ?_;(case aP=>exact rfl);(case aB=>exact ZB);(case aF=>exact(fun _ _=>trivial));(case aO=>exact(Z1 HO_5));(case aS=>exact zs_);(case aL=>have:=LMc10.out;omega);intro v708 w11 ho hb hg hat;rw[←Ny_b.1]at ho;replace HB:=am hb;have HOob:=am ho;clear HO_5;clear ho hb hg hat))
 go_roundg k1
 case measure=>have:=HK1.1;omega
 exact⟨(y_b),(wrap64 (x7_1+1)),(wrap64 (x7_1+1)),Z7,Z7,H',⟨Z34⟩,⟨(Z1 HOob)⟩,⟨ZB⟩⟩
mutual
def spec_ciRead.j0:Nat→ByteArray→Int→Bool→Option (Int)
  |0,_,_,_=>none
  |k+1,x0,x3,x13=>if x13=true then(if 1≤(x0.size:Int)then(spec_ciRead.j1 k (x0.extract 1 x0.size) (-1))else(none))else(spec_ciRead.j1 k x0 x3)
def spec_ciRead.j1:Nat→ByteArray→Int→Option (Int)
  |0,_,_=>none
  |k+1,x0,x3=>spec_ciRead.l0 k x0 x3 0 0
def spec_ciRead.l0:Nat→ByteArray→Int→Int→Int→Option (Int)
  |0,_,_,_,_=>none
  |k+1,x0,x3,x4,x5=>if x5<(x0.size:Int)then(if 0≤x5 then(if(bt x0 x5)<48 then(some 1000001)else(if(bt x0 x5)>57 then(some 1000001)else(if x4>1000000 then(some 1000001)else(spec_ciRead.l0 k x0 x3 (wrap64 ((wrap64 (10*x4))+(((bt x0 x5)-48)%256))) (wrap64 (x5+1))))))else(none))else(some (wrap64 (x3*x4)))
end
def spec_ciRead.f (k:Nat) (a0:ByteArray):Option (Int):=if(a0.size:Int)>0 then(if 0<(a0.size:Int)then(spec_ciRead.j0 k a0 1 ((bt a0 0)==45))else(none))else(spec_ciRead.j0 k a0 1 false)
theorem spec_ciRead.mono_l:∀k,(∀y0 y1 y2,LeO (spec_ciRead.j0 k y0 y1 y2) (spec_ciRead.j0 (k+1) y0 y1 y2))∧(∀y0 y1,LeO (spec_ciRead.j1 k y0 y1) (spec_ciRead.j1 (k+1) y0 y1))∧(∀y0 y1 y2 y3,LeO (spec_ciRead.l0 k y0 y1 y2 y3) (spec_ciRead.l0 (k+1) y0 y1 y2 y3))
  |0=>⟨fun _ _ _ r h=>by simp[spec_ciRead.j0]at h,fun _ _ r h=>by simp[spec_ciRead.j1]at h,fun _ _ _ _ r h=>by simp[spec_ciRead.l0]at h⟩
  |k+1=>by
    obtain⟨ih0,ih1,ih2⟩:=spec_ciRead.mono_l k
    refine⟨?_,?_,?_⟩
    · intro y0 y1 y2
      unfold spec_ciRead.j0
      exact mo_
    · intro y0 y1
      unfold spec_ciRead.j1
      exact mo_
    · intro y0 y1 y2 y3
      unfold spec_ciRead.l0
      exact mo_
theorem spec_ciRead.mono:∀a0 k,LeO (spec_ciRead.f k a0) (spec_ciRead.f (k+1) a0):=by
  intro a0 k
  obtain⟨ih0,ih1,ih2⟩:=spec_ciRead.mono_l k
  unfold spec_ciRead.f
  exact mo_
set_option maxHeartbeats 8000000 in
set_option maxRecDepth 100000 in
theorem spec_ciRead.calls (k:Nat) (a0:ByteArray) (r:Int) (w:World) (h:spec_ciRead.f k a0=some r):
  Calls Tryz.prog 67 #[.string a0] w fun e w'=>e= .returned (.int .i64 r)∧Drawn0 w w':=by
 have H:=h
 clear h
 unfold spec_ciRead.f at H
 have HC2:=am H
 clear H
 go_enter Tryz.func67,Tryz.ntmps67
 go_upto_region 2 with(fail)
 go_cut[13] (fun v13 wc=>∃(kq:Nat) (x13_1:Bool),v13= .bool x13_1∧Aside0 (spec_ciRead.j0 kq a0 1 x13_1=some r)∧Aside0 (kq≤k)∧Drawn0 w wc)
 case first=>
  have H:=HC2.1
  clear HC2
  by_cases c3:(a0.size:Int)>0
  rotate_left
  ·
   rw[if_neg c3]at H
   have c3b0:decide (0<(a0.size:Int))=false:=decide_eq_false c3
   have c3b1:decide (0<a0.size)=false:=decide_eq_false (by omega)
   clear c3
   (first|rw[c3b0]|(simp only[i64_w,i32_w];rw[c3b0])|rw[c3b1]|skip)
   have H':=am H
   clear H
   go_wp2
   go_meet
   exact⟨_,(false),Z7,H',⟨Z35⟩,Z16⟩
  rw[if_pos c3]at H
  have c3b0:decide (0<(a0.size:Int))=true:=decide_eq_true c3
  have c3b1:decide (0<a0.size)=true:=decide_eq_true (by omega)
  clear c3
  (first|rw[c3b0]|(simp only[i64_w,i32_w];rw[c3b0])|rw[c3b1]|skip)
  obtain⟨c4,H⟩:=ip_ H
  have c4b0:=decide_eq_true c4
  have c4b1:decide (0<a0.size)=true:=decide_eq_true (by omega)
  clear c4
  have H':=am H
  clear H
  have p5:0≤(0:Int):=(by omega)
  have q5:0<a0.size:=(by have:(0:Int)<(a0.size:Int):=of_decide_eq_true Z5;omega)
  have hx5:∀h:0<a0.size,((a0[0]'h).toNat:Int)=bt a0 0:=bt_at a0 0
  clear p5
  have qi5:(0<(a0.size:Int))=True:=eq_true (of_decide_eq_true Z5)
  replace q5:=eq_true q5
  go_wp2
  go_meet
  exact⟨_,(((bt a0 0)==45)),Z7,H',⟨Z35⟩,Z16⟩
 clear HC2
 obtain⟨kq,x13_1,rfl,HA,HJ1,⟨mc1,rfl⟩⟩:=hcut
 obtain _|kj1:=kq
 ·
  exact absurd HA.out (by simp[spec_ciRead.j0])
 have H:=HA.out
 clear HA
 simp only[spec_ciRead.j0]at H
 have HC6:=am H
 clear H
 go_upto_if 13 with(fail)
 go_cut[0,3] (fun v0 v3 wc=>∃(kq:Nat) (x0_5:ByteArray) (x3_5:Int),v0= .string x0_5∧v3= .int .i64 x3_5∧Aside0 (spec_ciRead.j1 kq x0_5 x3_5=some r)∧Aside0 (kq≤kj1)∧Drawn0 w wc)
 case first=>
  have H:=HC6.1
  clear HC6
  by_cases c7:x13_1=true
  ·
   subst c7
   rw[if_pos rfl]at H
   obtain⟨c8,H⟩:=ip_ H
   have c8b0:=eq_true c8
   have c8b1:=decide_eq_true c8
   clear c8
   have H':=am H
   clear H
   go_wp2
   go_meet
   exact⟨_,(a0.extract 1 a0.size),((-1)),Z7,Z7,H',⟨(Z44 HJ1)⟩,Z16⟩
  replace c7:=Bool.eq_false_iff.mpr c7
  subst c7
  rw[if_neg (show¬(false=true) by decide)]at H
  have H':=am H
  clear H
  go_wp2
  go_meet
  exact⟨_,(a0),(1),Z7,Z7,H',⟨(Z44 HJ1)⟩,Z16⟩
 clear HC6
 obtain⟨kq,x0_5,x3_5,rfl,rfl,HA,HJ5,⟨mc5,rfl⟩⟩:=hcut
 obtain _|kj5:=kq
 ·
  exact absurd HA.out (by simp[spec_ciRead.j1])
 have H:=HA.out
 clear HA
 simp only[spec_ciRead.j1]at H
 have H':=am H
 clear H
 go_wp2
 go_loopg [4,5] kj5 (fun kq v4 v5 w'=>∃(x4_3:Int) (x5_3:Int),v4= .int .i64 x4_3∧v5= .int .i64 x5_3∧Aside0 (spec_ciRead.l0 kq x0_5 x3_5 x4_3 x5_3=some r)∧Aside0 (kq≤kj5)∧Drawn0 w w')
 case atStart=>exact⟨(0),(0),Z7,Z7,H',⟨Nat.le_refl _⟩,Z16⟩
 clear H'
 obtain⟨x4_3,x5_3,rfl,rfl,HA,HK3,⟨m3,rfl⟩⟩:=hrel
 obtain _|k3:=gk
 ·
  exact absurd HA.out (by simp[spec_ciRead.l0])
 have H:=HA.out
 clear HA
 simp only[spec_ciRead.l0]at H
 by_cases c9:x5_3<(x0_5.size:Int)
 rotate_left
 ·
  rw[if_neg c9]at H
  have c9b0:=decide_eq_false c9
  clear c9
  obtain rfl:=Option.some.inj H
  go_wp2
  go_ret
  exact⟨Z7,Z16⟩
 rw[if_pos c9]at H
 have c9b0:=decide_eq_true c9
 clear c9
 obtain⟨c10,H⟩:=ip_ H
 have c10b0:=decide_eq_true c10
 clear c10
 by_cases c12:(bt x0_5 x5_3)<48
 ·
  rw[if_pos c12]at H
  have c12b0:=decide_eq_true c12
  clear c12
  obtain rfl:=Option.some.inj H
  have p11:0≤(x5_3:Int):=of_decide_eq_true Z5
  have q11:x5_3<(x0_5.size:Int):=of_decide_eq_true Z5
  have hx11:=bt_at x0_5 x5_3
  replace p11:=eq_true p11
  replace q11:=eq_true q11
  go_wp2
  go_ret
  exact⟨Z7,Z16⟩
 rw[if_neg c12]at H
 have c12b0:=decide_eq_false c12
 clear c12
 by_cases c14:(bt x0_5 x5_3)>57
 ·
  rw[if_pos c14]at H
  have c14b0:decide (57<(bt x0_5 x5_3))=true:=decide_eq_true c14
  clear c14
  obtain rfl:=Option.some.inj H
  have p11:0≤(x5_3:Int):=of_decide_eq_true Z5
  have q11:x5_3<(x0_5.size:Int):=of_decide_eq_true Z5
  have hx11:=bt_at x0_5 x5_3
  replace p11:=eq_true p11
  replace q11:=eq_true q11
  have p13:0≤(x5_3:Int):=of_decide_eq_true Z5
  have q13:x5_3<(x0_5.size:Int):=of_decide_eq_true Z5
  have hx13:=bt_at x0_5 x5_3
  replace p13:=eq_true p13
  replace q13:=eq_true q13
  go_wp2
  go_ret
  exact⟨Z7,Z16⟩
 rw[if_neg c14]at H
 have c14b0:decide (57<(bt x0_5 x5_3))=false:=decide_eq_false c14
 clear c14
 by_cases c15:x4_3>1000000
 ·
  rw[if_pos c15]at H
  have c15b0:decide (1000000<x4_3)=true:=decide_eq_true c15
  clear c15
  obtain rfl:=Option.some.inj H
  have p11:0≤(x5_3:Int):=of_decide_eq_true Z5
  have q11:x5_3<(x0_5.size:Int):=of_decide_eq_true Z5
  have hx11:=bt_at x0_5 x5_3
  replace p11:=eq_true p11
  replace q11:=eq_true q11
  have p13:0≤(x5_3:Int):=of_decide_eq_true Z5
  have q13:x5_3<(x0_5.size:Int):=of_decide_eq_true Z5
  have hx13:=bt_at x0_5 x5_3
  replace p13:=eq_true p13
  replace q13:=eq_true q13
  go_wp2
  go_ret
  exact⟨Z7,Z16⟩
 rw[if_neg c15]at H
 have c15b0:decide (1000000<x4_3)=false:=decide_eq_false c15
 clear c15
 have H':=am H
 clear H
 have p11:0≤(x5_3:Int):=of_decide_eq_true Z5
 have q11:x5_3<(x0_5.size:Int):=of_decide_eq_true Z5
 have hx11:=bt_at x0_5 x5_3
 replace p11:=eq_true p11
 replace q11:=eq_true q11
 have p13:0≤(x5_3:Int):=of_decide_eq_true Z5
 have q13:x5_3<(x0_5.size:Int):=of_decide_eq_true Z5
 have hx13:=bt_at x0_5 x5_3
 replace p13:=eq_true p13
 replace q13:=eq_true q13
 have p16:0≤(x5_3:Int):=of_decide_eq_true Z5
 have q16:x5_3<(x0_5.size:Int):=of_decide_eq_true Z5
 have hx16:=bt_at x0_5 x5_3
 replace p16:=eq_true p16
 replace q16:=eq_true q16
 go_wp2
 go_roundg k3
 case measure=>have:=HJ1.1;have:=HJ5.1;have:=HK3.1;omega
 exact⟨(wrap64 ((wrap64 (10*x4_3))+(((bt x0_5 x5_3)-48)%256))),(wrap64 (x5_3+1)),Z7,Z7,H',⟨(by have:=HJ1.1;have:=HJ5.1;have:=HK3.1;omega)⟩,Z16⟩
def spec_ParseCircle.f (k:Nat) (a0:ByteArray):Option (Int × Int × Int × Int × Bool):=(spec_l1Split.f k a0 32).bind fun t714=>(if(t714.length:Int)=4 then(if 0<(t714.length:Int)then((spec_ciRead.f k (rdOf ByteArray.empty t714 0)).bind fun t718=>(if 1<(t714.length:Int)then((spec_ciRead.f k (rdOf ByteArray.empty t714 1)).bind fun t720=>(if 2<(t714.length:Int)then((spec_ciRead.f k (rdOf ByteArray.empty t714 2)).bind fun t722=>(if 3<(t714.length:Int)then((spec_ciRead.f k (rdOf ByteArray.empty t714 3)).bind fun t724=>((spec_ciGood.f k t718 t720 t722 t724).bind fun t726=>(if t726=true then((spec_ciText.f k t718 t720 t722 t724).bind fun t727=>(if t727.toList=a0.toList then(some (t718,t720,t722,t724,true))else(some (0,0,0,0,false))))else(some (0,0,0,0,false)))))else(none)))else(none)))else(none)))else(none))else(some (0,0,0,0,false)))
theorem spec_ParseCircle.mono:∀a0 k,LeO (spec_ParseCircle.f k a0) (spec_ParseCircle.f (k+1) a0):=by
  intro a0 k
  unfold spec_ParseCircle.f
  exact mo_
def spec_ParseCircle.T4:Bool × List (List Nat × List Nat):=(true,[([],[]),([0],[0]),([1],[1]),([2],[2]),([],[]),([4],[4]),([5],[5]),([6,3],[6]),([],[]),([8],[8]),([9],[9]),([10,7],[10]),([],[]),([12],[12]),([13],[13]),([14,11],[14]),([3,7,11,15],[3,7,11,15]),([],[]),([17,16,15,0,1,2,3,4,5,6,7,8,9,10,11,12,13,14,15,16,17],[16,17])])
def spec_ParseCircle.B4:List Nat:=[0,1,3,7,0,16,48,127,0,256,768,2047,0,4096,12288,32767,65535,0,262143]
theorem spec_ParseCircle.tab4:rtab .any (opsOf Tryz.f26 4)=spec_ParseCircle.T4:=by kernel_rfl
theorem spec_ParseCircle.bits4:waitsOk spec_ParseCircle.T4.2 spec_ParseCircle.B4=true:=by kernel_rfl
set_option maxHeartbeats 8000000 in
set_option maxRecDepth 100000 in
theorem spec_ParseCircle.calls (k:Nat) (a0:ByteArray) (r1:Int) (r2:Int) (r3:Int) (r4:Int) (r5:Bool) (w:World) (h:spec_ParseCircle.f k a0=some (r1,r2,r3,r4,r5)):
  Calls Tryz.prog 26 #[.string a0] w fun e w'=>e= .returned (.tuple #[.agg #[.int .i64 r1,.int .i64 r2,.int .i64 r3,.int .i64 r4],.bool r5])∧Below w.heap.size w w':=by
 have hu37:=Tryz.underlying37
 have HB:=am (Below.refl w.heap.size w)
 have H:=h
 clear h
 unfold spec_ParseCircle.f at H
 obtain⟨t714,A2,H⟩:=bs_ H
 try dsimp only at H
 by_cases c3:(t714.length:Int)=4
 rotate_left
 ·
  rw[if_neg c3]at H
  obtain⟨c3b0,c3b1⟩:=ne2_ c3
  simp only[Option.some.injEq,Prod.mk.injEq]at H
  obtain⟨rfl,rfl,rfl,rfl,rfl⟩:=H
  go_enter Tryz.func26,Tryz.ntmps26
  go_wp2_with (first|((with_reducible refine gd_ 2 rfl ?_);refine boxN_ 2 #[.int .i64 0,.int .i64 0,.int .i64 0,.int .i64 0] 37 ?_;intro gboa hg w63 hbox hb;have BKoa:=am hbox;have GWoa:=gG_ hg;have GEoa:=gG_ hg;replace HB:=bw_ hb;clear hb hbox hg)|((with_reducible refine gc_ 66 rfl ?_);refine gE_ (some 7) Tryz.func66 (spec_l1Split.calls k a0 32 t714 _ A2.1) ?_;rintro v715 w64 ⟨ho0,hb⟩;have HOoc:=am (Kd.R_lower ho0 zs_);replace BKoa:=bk_ BKoa hb;replace HB:=bw_ hb;clear hb;(try clear ho0);obtain⟨Ao65,co65,eo65⟩:=Kd.R_slice HOoc.1;subst eo65;obtain⟨_,_,_,_,_,_,_,_⟩:=cz4_ BKoa))
  refine bodyPost_ret (results_ct rfl _ _ gboa 37 #[.int .i64 0,.int .i64 0,.int .i64 0,.int .i64 0] (0,0) _ rfl (bb_ BKoa) Tryz.underlying37 rfl Z19) rfl ?_
  exact⟨Z6,ZB⟩
 rw[if_pos c3]at H
 obtain⟨c3b0,c3b1⟩:=eq2_ c3
 clear c3
 obtain⟨c4,H⟩:=ip_ H
 have c4b0:=decide_eq_true c4
 have c4b1:decide (0<t714.length)=true:=decide_eq_true (by omega)
 clear c4
 obtain⟨t718,A5,H⟩:=bs_ H
 try dsimp only at H
 obtain⟨c6,H⟩:=ip_ H
 have c6b0:=decide_eq_true c6
 have c6b1:decide (1<t714.length)=true:=decide_eq_true (by omega)
 clear c6
 obtain⟨t720,A7,H⟩:=bs_ H
 try dsimp only at H
 obtain⟨c8,H⟩:=ip_ H
 have c8b0:=decide_eq_true c8
 have c8b1:decide (2<t714.length)=true:=decide_eq_true (by omega)
 clear c8
 obtain⟨t722,A9,H⟩:=bs_ H
 try dsimp only at H
 obtain⟨c10,H⟩:=ip_ H
 have c10b0:=decide_eq_true c10
 have c10b1:decide (3<t714.length)=true:=decide_eq_true (by omega)
 clear c10
 obtain⟨t724,A11,H⟩:=bs_ H
 try dsimp only at H
 obtain⟨t726,A12,H⟩:=bs_ H
 try dsimp only at H
 go_enter Tryz.func26,Tryz.ntmps26
 try go_wp2_with (first|((with_reducible refine gd_ 2 rfl ?_);refine boxN_ 2 #[.int .i64 0,.int .i64 0,.int .i64 0,.int .i64 0] 37 ?_;intro gboa hg w49 hbox hb;have BKoa:=am hbox;have GWoa:=gG_ hg;have GEoa:=gG_ hg;replace HB:=bw_ hb;clear hb hbox hg)|((with_reducible refine gc_ 66 rfl ?_);refine gE_ (some 7) Tryz.func66 (spec_l1Split.calls k a0 32 t714 _ A2.1) ?_;rintro v715 w50 ⟨ho0,hb⟩;have HOoc:=am (Kd.R_lower ho0 zs_);replace BKoa:=bk_ BKoa hb;replace HB:=bw_ hb;clear hb;(try clear ho0);obtain⟨Ao51,co51,eo51⟩:=Kd.R_slice HOoc.1;subst eo51))
 have n0_:=am (Kd.R_drew HOoc.1)
 have n1_:=am (blk_drew BKoa.1)
 have n2_:=am (below_drew1 HB.1)
 clear HOoc
 clear BKoa
 clear HB
 have HOoc:=n0_
 have BKoa:=n1_
 have HB:=n2_
 clear n0_ n1_ n2_
 have p717:0≤(0:Int):=(by omega)
 have q717:0<(t714.length:Int):=of_decide_eq_true Z31
 obtain⟨ad717,e717,hx717_0⟩:=Kd.at_string (Kd.R_reads' HOoc.1).2.2 0 p717 q717
 cases e717
 have qi717:(0<t714.length)=True:=eq_true (by omega)
 (try rw[show((0:Int)).toNat=0 from rfl]at hx717_0)
 (try rw[Addr.add_zero']at hx717_0)
 replace p717:=eq_true p717
 replace q717:=eq_true q717
 have p719:0≤(1:Int):=(by omega)
 have q719:1<(t714.length:Int):=of_decide_eq_true Z31
 obtain⟨ad719,e719,hx719_0⟩:=Kd.at_string (Kd.R_reads' HOoc.1).2.2 1 p719 q719
 obtain rfl:ad717=ad719:=(by injection e719)
 (try simp only[show(1:Int).toNat=1 from rfl,Nat.reduceMul,Nat.reduceEqDiff,Go.Addr.add,↓reduceIte]at hx719_0)
 have qi719:(1<t714.length)=True:=eq_true (by omega)
 (try rw[show((1:Int)).toNat=1 from rfl]at hx719_0)
 replace p719:=eq_true p719
 replace q719:=eq_true q719
 have p721:0≤(2:Int):=(by omega)
 have q721:2<(t714.length:Int):=of_decide_eq_true Z31
 obtain⟨ad721,e721,hx721_0⟩:=Kd.at_string (Kd.R_reads' HOoc.1).2.2 2 p721 q721
 obtain rfl:ad717=ad721:=(by injection e721)
 (try simp only[show(2:Int).toNat=2 from rfl,Nat.reduceMul,Nat.reduceEqDiff,Go.Addr.add,↓reduceIte]at hx721_0)
 have qi721:(2<t714.length)=True:=eq_true (by omega)
 (try rw[show((2:Int)).toNat=2 from rfl]at hx721_0)
 replace p721:=eq_true p721
 replace q721:=eq_true q721
 have p723:0≤(3:Int):=(by omega)
 have q723:3<(t714.length:Int):=of_decide_eq_true Z31
 obtain⟨ad723,e723,hx723_0⟩:=Kd.at_string (Kd.R_reads' HOoc.1).2.2 3 p723 q723
 obtain rfl:ad717=ad723:=(by injection e723)
 (try simp only[show(3:Int).toNat=3 from rfl,Nat.reduceMul,Nat.reduceEqDiff,Go.Addr.add,↓reduceIte]at hx723_0)
 have qi723:(3<t714.length)=True:=eq_true (by omega)
 (try rw[show((3:Int)).toNat=3 from rfl]at hx723_0)
 replace p723:=eq_true p723
 replace q723:=eq_true q723
 refine start_ (n:=19) (S:=fun w'=>w'.cell? ad717=some (.string (rdOf ByteArray.empty t714 0))∧w'.cell? ⟨ad717.block,ad717.off+1,none⟩=some (.string (rdOf ByteArray.empty t714 1))∧w'.cell? ⟨ad717.block,ad717.off+2,none⟩=some (.string (rdOf ByteArray.empty t714 2))∧w'.cell? ⟨ad717.block,ad717.off+3,none⟩=some (.string (rdOf ByteArray.empty t714 3))) (ds:=[]) M1 Z19 rfl rfl ⟨hx717_0,hx719_0,hx721_0,hx723_0⟩ (fun hHeld=>?_);refine with_tabW spec_ParseCircle.tab4 spec_ParseCircle.bits4 (fun HT_ HW_=>?_)
 generalize w50.drew=w52 at HOoc BKoa HB hx717_0 hx719_0 hx721_0 hx723_0 hHeld ⊢
 refine purz_ 0 12 M9 HT_ ?_
 refine purz_ 1 13 #[true,true,false,false,false,false,false,false,false,false,false,false,false,false,false,false,false,false,false] HT_ ?_
 refine purz_ 4 16 #[true,true,false,false,true,false,false,false,false,false,false,false,false,false,false,false,false,false,false] HT_ ?_
 refine purz_ 5 17 #[true,true,false,false,true,true,false,false,false,false,false,false,false,false,false,false,false,false,false] HT_ ?_
 refine purz_ 8 20 #[true,true,false,false,true,true,false,false,true,false,false,false,false,false,false,false,false,false,false] HT_ ?_
 refine purz_ 9 21 #[true,true,false,false,true,true,false,false,true,true,false,false,false,false,false,false,false,false,false] HT_ ?_
 refine purz_ 12 24 #[true,true,false,false,true,true,false,false,true,true,false,false,true,false,false,false,false,false,false] HT_ ?_
 refine purz_ 13 25 #[true,true,false,false,true,true,false,false,true,true,false,false,true,true,false,false,false,false,false] HT_ ?_
 refine takz4_ 2 14 #[true,true,true,false,true,true,false,false,true,true,false,false,true,true,false,false,false,false,false] HT_ HW_ hHeld ?_
 refine takz4_ 6 18 #[true,true,true,false,true,true,true,false,true,true,false,false,true,true,false,false,false,false,false] HT_ HW_ hHeld ?_
 refine takz4_ 10 22 #[true,true,true,false,true,true,true,false,true,true,true,false,true,true,false,false,false,false,false] HT_ HW_ hHeld ?_
 refine takz4_ 14 26 #[true,true,true,false,true,true,true,false,true,true,true,false,true,true,true,false,false,false,false] HT_ HW_ hHeld ?_
 refine join_ (σ:=Nat) 1 M64 (fun s_=>[(15,.int .i64 t718),(19,.int .i64 t720),(23,.int .i64 t722),(27,.int .i64 t724),(5,.pointer (some ⟨s_,0,none⟩)),(28,.agg #[.int .i64 t718,.int .i64 t720,.int .i64 t722,.int .i64 t724])]) (fun s_ w'=>(w'.cell? ad717=some (.string (rdOf ByteArray.empty t714 0))∧w'.cell? ⟨ad717.block,ad717.off+1,none⟩=some (.string (rdOf ByteArray.empty t714 1))∧w'.cell? ⟨ad717.block,ad717.off+2,none⟩=some (.string (rdOf ByteArray.empty t714 2))∧w'.cell? ⟨ad717.block,ad717.off+3,none⟩=some (.string (rdOf ByteArray.empty t714 3)))∧(Kd.R Kd.string 9 w' w.heap.size (fun _=>True) (.slice (some ad717) t714.length co51) t714)∧(w'.heap[gboa]?=some (.cells #[.int .i64 0,.int .i64 0,.int .i64 0,.int .i64 0] 37 (0,0)))∧(w'.heap[s_]?=some (.cells #[.int .i64 0,.int .i64 0,.int .i64 0,.int .i64 0] 37 (0,0)))∧(w.heap.size≤s_)∧(w.heap.size≤s_)∧(gboa≠s_)∧(s_≠gboa)∧(Below w.heap.size w w')) ?_ ?_
 rotate_left
 ·
  intro hJ3_7_11_15_17
  refine join_ (σ:=Unit) 2 M63 (fun s_=>[(15,.int .i64 t718),(19,.int .i64 t720),(23,.int .i64 t722),(27,.int .i64 t724),(28,.agg #[.int .i64 t718,.int .i64 t720,.int .i64 t722,.int .i64 t724])]) (fun s_ w'=>(w'.cell? ad717=some (.string (rdOf ByteArray.empty t714 0))∧w'.cell? ⟨ad717.block,ad717.off+1,none⟩=some (.string (rdOf ByteArray.empty t714 1))∧w'.cell? ⟨ad717.block,ad717.off+2,none⟩=some (.string (rdOf ByteArray.empty t714 2))∧w'.cell? ⟨ad717.block,ad717.off+3,none⟩=some (.string (rdOf ByteArray.empty t714 3)))∧(Kd.R Kd.string 9 w' w.heap.size (fun _=>True) (.slice (some ad717) t714.length co51) t714)∧(w'.heap[gboa]?=some (.cells #[.int .i64 0,.int .i64 0,.int .i64 0,.int .i64 0] 37 (0,0)))∧(Below w.heap.size w w')) ?_ ?_
  rotate_left
  ·
   intro hJ3_7_11_15
   refine join_ (σ:=Nat) 3 M59 (fun s_=>[(15,.int .i64 t718),(19,.int .i64 t720),(23,.int .i64 t722),(5,.pointer (some ⟨s_,0,none⟩))]) (fun s_ w'=>(w'.cell? ad717=some (.string (rdOf ByteArray.empty t714 0))∧w'.cell? ⟨ad717.block,ad717.off+1,none⟩=some (.string (rdOf ByteArray.empty t714 1))∧w'.cell? ⟨ad717.block,ad717.off+2,none⟩=some (.string (rdOf ByteArray.empty t714 2))∧w'.cell? ⟨ad717.block,ad717.off+3,none⟩=some (.string (rdOf ByteArray.empty t714 3)))∧(Kd.R Kd.string 9 w' w.heap.size (fun _=>True) (.slice (some ad717) t714.length co51) t714)∧(w'.heap[gboa]?=some (.cells #[.int .i64 0,.int .i64 0,.int .i64 0,.int .i64 0] 37 (0,0)))∧(w'.heap[s_]?=some (.cells #[.int .i64 0,.int .i64 0,.int .i64 0,.int .i64 0] 37 (0,0)))∧(w.heap.size≤s_)∧(w.heap.size≤s_)∧(gboa≠s_)∧(s_≠gboa)∧(Below w.heap.size w w')) ?_ ?_
   rotate_left
   ·
    intro hJ3_7_11_17
    refine join_ (σ:=Unit) 4 M58 (fun s_=>[(15,.int .i64 t718),(19,.int .i64 t720),(23,.int .i64 t722)]) (fun s_ w'=>(w'.cell? ad717=some (.string (rdOf ByteArray.empty t714 0))∧w'.cell? ⟨ad717.block,ad717.off+1,none⟩=some (.string (rdOf ByteArray.empty t714 1))∧w'.cell? ⟨ad717.block,ad717.off+2,none⟩=some (.string (rdOf ByteArray.empty t714 2))∧w'.cell? ⟨ad717.block,ad717.off+3,none⟩=some (.string (rdOf ByteArray.empty t714 3)))∧(Kd.R Kd.string 9 w' w.heap.size (fun _=>True) (.slice (some ad717) t714.length co51) t714)∧(w'.heap[gboa]?=some (.cells #[.int .i64 0,.int .i64 0,.int .i64 0,.int .i64 0] 37 (0,0)))∧(Below w.heap.size w w')) ?_ ?_
    rotate_left
    ·
     intro hJ3_7_11
     refine join_ (σ:=Nat) 4 M53 (fun s_=>[(15,.int .i64 t718),(19,.int .i64 t720),(5,.pointer (some ⟨s_,0,none⟩))]) (fun s_ w'=>(w'.cell? ad717=some (.string (rdOf ByteArray.empty t714 0))∧w'.cell? ⟨ad717.block,ad717.off+1,none⟩=some (.string (rdOf ByteArray.empty t714 1))∧w'.cell? ⟨ad717.block,ad717.off+2,none⟩=some (.string (rdOf ByteArray.empty t714 2))∧w'.cell? ⟨ad717.block,ad717.off+3,none⟩=some (.string (rdOf ByteArray.empty t714 3)))∧(Kd.R Kd.string 9 w' w.heap.size (fun _=>True) (.slice (some ad717) t714.length co51) t714)∧(w'.heap[gboa]?=some (.cells #[.int .i64 0,.int .i64 0,.int .i64 0,.int .i64 0] 37 (0,0)))∧(w'.heap[s_]?=some (.cells #[.int .i64 0,.int .i64 0,.int .i64 0,.int .i64 0] 37 (0,0)))∧(w.heap.size≤s_)∧(w.heap.size≤s_)∧(gboa≠s_)∧(s_≠gboa)∧(Below w.heap.size w w')) ?_ ?_
     rotate_left
     ·
      intro hJ3_7_17
      refine join_ (σ:=Unit) 5 M52 (fun s_=>[(15,.int .i64 t718),(19,.int .i64 t720)]) (fun s_ w'=>(w'.cell? ad717=some (.string (rdOf ByteArray.empty t714 0))∧w'.cell? ⟨ad717.block,ad717.off+1,none⟩=some (.string (rdOf ByteArray.empty t714 1))∧w'.cell? ⟨ad717.block,ad717.off+2,none⟩=some (.string (rdOf ByteArray.empty t714 2))∧w'.cell? ⟨ad717.block,ad717.off+3,none⟩=some (.string (rdOf ByteArray.empty t714 3)))∧(Kd.R Kd.string 9 w' w.heap.size (fun _=>True) (.slice (some ad717) t714.length co51) t714)∧(w'.heap[gboa]?=some (.cells #[.int .i64 0,.int .i64 0,.int .i64 0,.int .i64 0] 37 (0,0)))∧(Below w.heap.size w w')) ?_ ?_
      rotate_left
      ·
       intro hJ3_7
       refine join_ (σ:=Nat) 5 M44 (fun s_=>[(15,.int .i64 t718),(5,.pointer (some ⟨s_,0,none⟩))]) (fun s_ w'=>(w'.cell? ad717=some (.string (rdOf ByteArray.empty t714 0))∧w'.cell? ⟨ad717.block,ad717.off+1,none⟩=some (.string (rdOf ByteArray.empty t714 1))∧w'.cell? ⟨ad717.block,ad717.off+2,none⟩=some (.string (rdOf ByteArray.empty t714 2))∧w'.cell? ⟨ad717.block,ad717.off+3,none⟩=some (.string (rdOf ByteArray.empty t714 3)))∧(Kd.R Kd.string 9 w' w.heap.size (fun _=>True) (.slice (some ad717) t714.length co51) t714)∧(w'.heap[gboa]?=some (.cells #[.int .i64 0,.int .i64 0,.int .i64 0,.int .i64 0] 37 (0,0)))∧(w'.heap[s_]?=some (.cells #[.int .i64 0,.int .i64 0,.int .i64 0,.int .i64 0] 37 (0,0)))∧(w.heap.size≤s_)∧(w.heap.size≤s_)∧(gboa≠s_)∧(s_≠gboa)∧(Below w.heap.size w w')) ?_ ?_
       rotate_left
       ·
        intro hJ3_17
        refine join_ (σ:=Unit) 6 M43 (fun s_=>[(15,.int .i64 t718)]) (fun s_ w'=>(w'.cell? ad717=some (.string (rdOf ByteArray.empty t714 0))∧w'.cell? ⟨ad717.block,ad717.off+1,none⟩=some (.string (rdOf ByteArray.empty t714 1))∧w'.cell? ⟨ad717.block,ad717.off+2,none⟩=some (.string (rdOf ByteArray.empty t714 2))∧w'.cell? ⟨ad717.block,ad717.off+3,none⟩=some (.string (rdOf ByteArray.empty t714 3)))∧(Kd.R Kd.string 9 w' w.heap.size (fun _=>True) (.slice (some ad717) t714.length co51) t714)∧(w'.heap[gboa]?=some (.cells #[.int .i64 0,.int .i64 0,.int .i64 0,.int .i64 0] 37 (0,0)))∧(Below w.heap.size w w')) ?_ ?_
        rotate_left
        ·
         intro hJ3
         refine join_ (σ:=Nat) 6 M34 (fun s_=>[(5,.pointer (some ⟨s_,0,none⟩))]) (fun s_ w'=>(w'.cell? ad717=some (.string (rdOf ByteArray.empty t714 0))∧w'.cell? ⟨ad717.block,ad717.off+1,none⟩=some (.string (rdOf ByteArray.empty t714 1))∧w'.cell? ⟨ad717.block,ad717.off+2,none⟩=some (.string (rdOf ByteArray.empty t714 2))∧w'.cell? ⟨ad717.block,ad717.off+3,none⟩=some (.string (rdOf ByteArray.empty t714 3)))∧(Kd.R Kd.string 9 w' w.heap.size (fun _=>True) (.slice (some ad717) t714.length co51) t714)∧(w'.heap[gboa]?=some (.cells #[.int .i64 0,.int .i64 0,.int .i64 0,.int .i64 0] 37 (0,0)))∧(w'.heap[s_]?=some (.cells #[.int .i64 0,.int .i64 0,.int .i64 0,.int .i64 0] 37 (0,0)))∧(w.heap.size≤s_)∧(w.heap.size≤s_)∧(gboa≠s_)∧(s_≠gboa)∧(Below w.heap.size w w')) ?_ ?_
         rotate_left
         ·
          intro hJ17
          refine two_ (i:=3) (j:=17) (Ni:=some 15) (Nj:=some 5) M43 M34 rfl rfl rfl rfl (two_of HT_.out Z19) (by decide) (by decide) (fun K hK=>?_) (fun K hK=>?_)
          ·
           skip
           refine goes_ Tryz.func67 Z19 rfl #[.string (rdOf ByteArray.empty t714 0)] (by rfl) rfl rfl Z18 ?_
           with_reducible refine(spec_ciRead.calls k (rdOf ByteArray.empty t714 0) t718 _ A5.1).mono ?_
           rintro e w' ⟨rfl,⟨nd,rfl⟩⟩
           refine⟨_,rfl,?_⟩
           refine hK.out _ _ ⟨hHeld.1,hHeld.2.1,hHeld.2.2.1,hHeld.2.2.2⟩ (fun hHeld=>?_)
           clear hK K
           refine norm_ (a':=?_) ?_ ?_
           rotate_left
           ·
            show Act.put _ (some 15) _=_
            simp only[Act.put,sA_,sB_,sC_,i64_w,i32_w]
            rfl
           exact norm_ Z28 (hJ3 () _ ⟨hHeld,(Z1 HOoc),(bb_ BKoa),ZB⟩)
          skip
          refine box_step ?hg (N:=5) ?hd (cs:=#[.int .i64 0,.int .i64 0,.int .i64 0,.int .i64 0]) (t:=37) ?hr ?_;(case hd=>rfl);(case hg=>rfl);(case hr=>first|(go_simp;done)|(go_simp;rfl))
          intro gbob hg w53 hbox hb
          have HS0_:=(hb.cell (World.block_lt_of_cell? _ _ (hHeld.1))).trans (hHeld.1)
          have HS1_:=(hb.cell (World.block_lt_of_cell? _ _ (hHeld.2.1))).trans (hHeld.2.1)
          have HS2_:=(hb.cell (World.block_lt_of_cell? _ _ (hHeld.2.2.1))).trans (hHeld.2.2.1)
          have HS3_:=(hb.cell (World.block_lt_of_cell? _ _ (hHeld.2.2.2))).trans (hHeld.2.2.2)
          have n0_:=am (Kd.R_below (Z1 HOoc) hb)
          have n1_:=bk_ BKoa hb
          have n2_:=bw_ hb
          have n3_:=am (hbox)
          have n4_:=am ((by rw[hg];exact zs_:w.heap.size≤gbob))
          have n5_:=am ((by rw[hg];exact zs_:w.heap.size≤gbob))
          have n6_:=am ((by rw[hg];exact Nat.ne_of_lt (blk_lt (bb_ BKoa)):gboa≠gbob))
          have n7_:=am ((by rw[hg];exact Nat.ne_of_gt (blk_lt (bb_ BKoa)):gbob≠gboa))
          clear HOoc
          clear BKoa
          clear HB
          have HOoc:=n0_
          have BKoa:=n1_
          have HB:=n2_
          have BKob:=n3_
          have GWob:=n4_
          have GEob:=n5_
          have NBoa_ob:=n6_
          have NBob_oa:=n7_
          clear n0_ n1_ n2_ n3_ n4_ n5_ n6_ n7_
          clear hb hbox hg
          refine hK.out _ _ ⟨HS0_,HS1_,HS2_,HS3_⟩ (fun hHeld=>?_)
          clear hK K
          refine norm_ (a':=?_) ?_ ?_
          rotate_left
          ·
           show Act.put _ (some 5) _=_
           simp only[Act.put,sA_,sB_,sC_,i64_w,i32_w]
           rfl
          exact norm_ Z28 (hJ17 (gbob) _ ⟨hHeld,(Z1 HOoc),(bb_ BKoa),(bb_ BKob),GWob.1,GEob.1,NBoa_ob.1,NBob_oa.1,ZB⟩)
         skip
         rintro gbob w54 ⟨hS_,h0_,h1_,h2_,h3_,h4_,h5_,h6_,h7_⟩
         have n0_:Aside0 (Kd.R Kd.string 9 w54 w.heap.size (fun _=>True) (.slice (some ad717) t714.length co51) t714):=⟨h0_⟩
         have n1_:Aside0 (w54.heap[gboa]?=some (.cells #[.int .i64 0,.int .i64 0,.int .i64 0,.int .i64 0] 37 (0,0))):=⟨h1_⟩
         have n2_:Aside0 (w54.heap[gbob]?=some (.cells #[.int .i64 0,.int .i64 0,.int .i64 0,.int .i64 0] 37 (0,0))):=⟨h2_⟩
         have n3_:Aside0 (w.heap.size≤gbob):=⟨h3_⟩
         have n4_:Aside0 (w.heap.size≤gbob):=⟨h4_⟩
         have n5_:Aside0 (gboa≠gbob):=⟨h5_⟩
         have n6_:Aside0 (gbob≠gboa):=⟨h6_⟩
         have n7_:Aside0 (Below w.heap.size w w54):=⟨h7_⟩
         clear HOoc
         clear BKoa
         clear HB
         clear h0_ h1_ h2_ h3_ h4_ h5_ h6_ h7_
         have HOoc:=n0_
         have BKoa:=n1_
         have BKob:=n2_
         have GWob:=n3_
         have GEob:=n4_
         have NBoa_ob:=n5_
         have NBob_oa:=n6_
         have HB:=n7_
         clear n0_ n1_ n2_ n3_ n4_ n5_ n6_ n7_
         have hHeld:w54.cell? ad717=some (.string (rdOf ByteArray.empty t714 0))∧w54.cell? ⟨ad717.block,ad717.off+1,none⟩=some (.string (rdOf ByteArray.empty t714 1))∧w54.cell? ⟨ad717.block,ad717.off+2,none⟩=some (.string (rdOf ByteArray.empty t714 2))∧w54.cell? ⟨ad717.block,ad717.off+3,none⟩=some (.string (rdOf ByteArray.empty t714 3)):=hS_
         refine norm_ (a':=?_) ?_ ?_
         rotate_left
         ·
          simp only[putAll,Act.put,sA_,sB_,sC_]
          rfl
         refine one_ (i:=3) (N:=some 15) M44 rfl rfl (one_of HT_.out Z19) (by decide) (fun K hK=>?_)
         refine goes_ Tryz.func67 Z19 rfl #[.string (rdOf ByteArray.empty t714 0)] (by rfl) rfl rfl Z18 ?_
         with_reducible refine(spec_ciRead.calls k (rdOf ByteArray.empty t714 0) t718 _ A5.1).mono ?_
         rintro e w' ⟨rfl,⟨nd,rfl⟩⟩
         refine⟨_,rfl,?_⟩
         refine hK.out _ _ ⟨hHeld.1,hHeld.2.1,hHeld.2.2.1,hHeld.2.2.2⟩ (fun hHeld=>?_)
         clear hK K
         refine norm_ (a':=?_) ?_ ?_
         rotate_left
         ·
          show Act.put _ (some 15) _=_
          simp only[Act.put,sA_,sB_,sC_,i64_w,i32_w]
          rfl
         exact norm_ Z28 (hJ3_17 (gbob) _ ⟨hHeld,(Z1 HOoc),(bb_ BKoa),(bb_ BKob),GWob.1,GEob.1,NBoa_ob.1,NBob_oa.1,ZB⟩)
        skip
        rintro _ w53 ⟨hS_,h0_,h1_,h2_⟩
        have n0_:Aside0 (Kd.R Kd.string 9 w53 w.heap.size (fun _=>True) (.slice (some ad717) t714.length co51) t714):=⟨h0_⟩
        have n1_:Aside0 (w53.heap[gboa]?=some (.cells #[.int .i64 0,.int .i64 0,.int .i64 0,.int .i64 0] 37 (0,0))):=⟨h1_⟩
        have n2_:Aside0 (Below w.heap.size w w53):=⟨h2_⟩
        clear HOoc
        clear BKoa
        clear HB
        clear h0_ h1_ h2_
        have HOoc:=n0_
        have BKoa:=n1_
        have HB:=n2_
        clear n0_ n1_ n2_
        have hHeld:w53.cell? ad717=some (.string (rdOf ByteArray.empty t714 0))∧w53.cell? ⟨ad717.block,ad717.off+1,none⟩=some (.string (rdOf ByteArray.empty t714 1))∧w53.cell? ⟨ad717.block,ad717.off+2,none⟩=some (.string (rdOf ByteArray.empty t714 2))∧w53.cell? ⟨ad717.block,ad717.off+3,none⟩=some (.string (rdOf ByteArray.empty t714 3)):=hS_
        refine norm_ (a':=?_) ?_ ?_
        rotate_left
        ·
         simp only[putAll,Act.put,sA_,sB_,sC_]
         rfl
        refine two_ (i:=7) (j:=17) (Ni:=some 19) (Nj:=some 5) M52 M44 rfl rfl rfl rfl (two_of HT_.out Z19) (by decide) (by decide) (fun K hK=>?_) (fun K hK=>?_)
        ·
         skip
         refine goes_ Tryz.func67 Z19 rfl #[.string (rdOf ByteArray.empty t714 1)] (by rfl) rfl rfl Z18 ?_
         with_reducible refine(spec_ciRead.calls k (rdOf ByteArray.empty t714 1) t720 _ A7.1).mono ?_
         rintro e w' ⟨rfl,⟨nd,rfl⟩⟩
         refine⟨_,rfl,?_⟩
         refine hK.out _ _ ⟨hHeld.1,hHeld.2.1,hHeld.2.2.1,hHeld.2.2.2⟩ (fun hHeld=>?_)
         clear hK K
         refine norm_ (a':=?_) ?_ ?_
         rotate_left
         ·
          show Act.put _ (some 19) _=_
          simp only[Act.put,sA_,sB_,sC_,i64_w,i32_w]
          rfl
         exact norm_ Z28 (hJ3_7 () _ ⟨hHeld,(Z1 HOoc),(bb_ BKoa),ZB⟩)
        skip
        refine box_step ?hg (N:=5) ?hd (cs:=#[.int .i64 0,.int .i64 0,.int .i64 0,.int .i64 0]) (t:=37) ?hr ?_;(case hd=>rfl);(case hg=>rfl);(case hr=>first|(go_simp;done)|(go_simp;rfl))
        intro gbob hg w54 hbox hb
        have HS0_:=(hb.cell (World.block_lt_of_cell? _ _ (hHeld.1))).trans (hHeld.1)
        have HS1_:=(hb.cell (World.block_lt_of_cell? _ _ (hHeld.2.1))).trans (hHeld.2.1)
        have HS2_:=(hb.cell (World.block_lt_of_cell? _ _ (hHeld.2.2.1))).trans (hHeld.2.2.1)
        have HS3_:=(hb.cell (World.block_lt_of_cell? _ _ (hHeld.2.2.2))).trans (hHeld.2.2.2)
        have n0_:=am (Kd.R_below (Z1 HOoc) hb)
        have n1_:=bk_ BKoa hb
        have n2_:=bw_ hb
        have n3_:=am (hbox)
        have n4_:=am ((by rw[hg];exact zs_:w.heap.size≤gbob))
        have n5_:=am ((by rw[hg];exact zs_:w.heap.size≤gbob))
        have n6_:=am ((by rw[hg];exact Nat.ne_of_lt (blk_lt (bb_ BKoa)):gboa≠gbob))
        have n7_:=am ((by rw[hg];exact Nat.ne_of_gt (blk_lt (bb_ BKoa)):gbob≠gboa))
        clear HOoc
        clear BKoa
        clear HB
        have HOoc:=n0_
        have BKoa:=n1_
        have HB:=n2_
        have BKob:=n3_
        have GWob:=n4_
        have GEob:=n5_
        have NBoa_ob:=n6_
        have NBob_oa:=n7_
        clear n0_ n1_ n2_ n3_ n4_ n5_ n6_ n7_
        clear hb hbox hg
        refine hK.out _ _ ⟨HS0_,HS1_,HS2_,HS3_⟩ (fun hHeld=>?_)
        clear hK K
        refine norm_ (a':=?_) ?_ ?_
        rotate_left
        ·
         show Act.put _ (some 5) _=_
         simp only[Act.put,sA_,sB_,sC_,i64_w,i32_w]
         rfl
        exact norm_ Z28 (hJ3_17 (gbob) _ ⟨hHeld,(Z1 HOoc),(bb_ BKoa),(bb_ BKob),GWob.1,GEob.1,NBoa_ob.1,NBob_oa.1,ZB⟩)
       skip
       rintro gbob w54 ⟨hS_,h0_,h1_,h2_,h3_,h4_,h5_,h6_,h7_⟩
       have n0_:Aside0 (Kd.R Kd.string 9 w54 w.heap.size (fun _=>True) (.slice (some ad717) t714.length co51) t714):=⟨h0_⟩
       have n1_:Aside0 (w54.heap[gboa]?=some (.cells #[.int .i64 0,.int .i64 0,.int .i64 0,.int .i64 0] 37 (0,0))):=⟨h1_⟩
       have n2_:Aside0 (w54.heap[gbob]?=some (.cells #[.int .i64 0,.int .i64 0,.int .i64 0,.int .i64 0] 37 (0,0))):=⟨h2_⟩
       have n3_:Aside0 (w.heap.size≤gbob):=⟨h3_⟩
       have n4_:Aside0 (w.heap.size≤gbob):=⟨h4_⟩
       have n5_:Aside0 (gboa≠gbob):=⟨h5_⟩
       have n6_:Aside0 (gbob≠gboa):=⟨h6_⟩
       have n7_:Aside0 (Below w.heap.size w w54):=⟨h7_⟩
       clear HOoc
       clear BKoa
       clear HB
       clear h0_ h1_ h2_ h3_ h4_ h5_ h6_ h7_
       have HOoc:=n0_
       have BKoa:=n1_
       have BKob:=n2_
       have GWob:=n3_
       have GEob:=n4_
       have NBoa_ob:=n5_
       have NBob_oa:=n6_
       have HB:=n7_
       clear n0_ n1_ n2_ n3_ n4_ n5_ n6_ n7_
       have hHeld:w54.cell? ad717=some (.string (rdOf ByteArray.empty t714 0))∧w54.cell? ⟨ad717.block,ad717.off+1,none⟩=some (.string (rdOf ByteArray.empty t714 1))∧w54.cell? ⟨ad717.block,ad717.off+2,none⟩=some (.string (rdOf ByteArray.empty t714 2))∧w54.cell? ⟨ad717.block,ad717.off+3,none⟩=some (.string (rdOf ByteArray.empty t714 3)):=hS_
       refine norm_ (a':=?_) ?_ ?_
       rotate_left
       ·
        simp only[putAll,Act.put,sA_,sB_,sC_]
        rfl
       refine one_ (i:=7) (N:=some 19) M53 rfl rfl (one_of HT_.out Z19) (by decide) (fun K hK=>?_)
       refine goes_ Tryz.func67 Z19 rfl #[.string (rdOf ByteArray.empty t714 1)] (by rfl) rfl rfl Z18 ?_
       with_reducible refine(spec_ciRead.calls k (rdOf ByteArray.empty t714 1) t720 _ A7.1).mono ?_
       rintro e w' ⟨rfl,⟨nd,rfl⟩⟩
       refine⟨_,rfl,?_⟩
       refine hK.out _ _ ⟨hHeld.1,hHeld.2.1,hHeld.2.2.1,hHeld.2.2.2⟩ (fun hHeld=>?_)
       clear hK K
       refine norm_ (a':=?_) ?_ ?_
       rotate_left
       ·
        show Act.put _ (some 19) _=_
        simp only[Act.put,sA_,sB_,sC_,i64_w,i32_w]
        rfl
       exact norm_ Z28 (hJ3_7_17 (gbob) _ ⟨hHeld,(Z1 HOoc),(bb_ BKoa),(bb_ BKob),GWob.1,GEob.1,NBoa_ob.1,NBob_oa.1,ZB⟩)
      skip
      rintro _ w53 ⟨hS_,h0_,h1_,h2_⟩
      have n0_:Aside0 (Kd.R Kd.string 9 w53 w.heap.size (fun _=>True) (.slice (some ad717) t714.length co51) t714):=⟨h0_⟩
      have n1_:Aside0 (w53.heap[gboa]?=some (.cells #[.int .i64 0,.int .i64 0,.int .i64 0,.int .i64 0] 37 (0,0))):=⟨h1_⟩
      have n2_:Aside0 (Below w.heap.size w w53):=⟨h2_⟩
      clear HOoc
      clear BKoa
      clear HB
      clear h0_ h1_ h2_
      have HOoc:=n0_
      have BKoa:=n1_
      have HB:=n2_
      clear n0_ n1_ n2_
      have hHeld:w53.cell? ad717=some (.string (rdOf ByteArray.empty t714 0))∧w53.cell? ⟨ad717.block,ad717.off+1,none⟩=some (.string (rdOf ByteArray.empty t714 1))∧w53.cell? ⟨ad717.block,ad717.off+2,none⟩=some (.string (rdOf ByteArray.empty t714 2))∧w53.cell? ⟨ad717.block,ad717.off+3,none⟩=some (.string (rdOf ByteArray.empty t714 3)):=hS_
      refine norm_ (a':=?_) ?_ ?_
      rotate_left
      ·
       simp only[putAll,Act.put,sA_,sB_,sC_]
       rfl
      refine two_ (i:=11) (j:=17) (Ni:=some 23) (Nj:=some 5) M58 M53 rfl rfl rfl rfl (two_of HT_.out Z19) (by decide) (by decide) (fun K hK=>?_) (fun K hK=>?_)
      ·
       skip
       refine goes_ Tryz.func67 Z19 rfl #[.string (rdOf ByteArray.empty t714 2)] (by rfl) rfl rfl Z18 ?_
       with_reducible refine(spec_ciRead.calls k (rdOf ByteArray.empty t714 2) t722 _ A9.1).mono ?_
       rintro e w' ⟨rfl,⟨nd,rfl⟩⟩
       refine⟨_,rfl,?_⟩
       refine hK.out _ _ ⟨hHeld.1,hHeld.2.1,hHeld.2.2.1,hHeld.2.2.2⟩ (fun hHeld=>?_)
       clear hK K
       refine norm_ (a':=?_) ?_ ?_
       rotate_left
       ·
        show Act.put _ (some 23) _=_
        simp only[Act.put,sA_,sB_,sC_,i64_w,i32_w]
        rfl
       exact norm_ Z28 (hJ3_7_11 () _ ⟨hHeld,(Z1 HOoc),(bb_ BKoa),ZB⟩)
      skip
      refine box_step ?hg (N:=5) ?hd (cs:=#[.int .i64 0,.int .i64 0,.int .i64 0,.int .i64 0]) (t:=37) ?hr ?_;(case hd=>rfl);(case hg=>rfl);(case hr=>first|(go_simp;done)|(go_simp;rfl))
      intro gbob hg w54 hbox hb
      have HS0_:=(hb.cell (World.block_lt_of_cell? _ _ (hHeld.1))).trans (hHeld.1)
      have HS1_:=(hb.cell (World.block_lt_of_cell? _ _ (hHeld.2.1))).trans (hHeld.2.1)
      have HS2_:=(hb.cell (World.block_lt_of_cell? _ _ (hHeld.2.2.1))).trans (hHeld.2.2.1)
      have HS3_:=(hb.cell (World.block_lt_of_cell? _ _ (hHeld.2.2.2))).trans (hHeld.2.2.2)
      have n0_:=am (Kd.R_below (Z1 HOoc) hb)
      have n1_:=bk_ BKoa hb
      have n2_:=bw_ hb
      have n3_:=am (hbox)
      have n4_:=am ((by rw[hg];exact zs_:w.heap.size≤gbob))
      have n5_:=am ((by rw[hg];exact zs_:w.heap.size≤gbob))
      have n6_:=am ((by rw[hg];exact Nat.ne_of_lt (blk_lt (bb_ BKoa)):gboa≠gbob))
      have n7_:=am ((by rw[hg];exact Nat.ne_of_gt (blk_lt (bb_ BKoa)):gbob≠gboa))
      clear HOoc
      clear BKoa
      clear HB
      have HOoc:=n0_
      have BKoa:=n1_
      have HB:=n2_
      have BKob:=n3_
      have GWob:=n4_
      have GEob:=n5_
      have NBoa_ob:=n6_
      have NBob_oa:=n7_
      clear n0_ n1_ n2_ n3_ n4_ n5_ n6_ n7_
      clear hb hbox hg
      refine hK.out _ _ ⟨HS0_,HS1_,HS2_,HS3_⟩ (fun hHeld=>?_)
      clear hK K
      refine norm_ (a':=?_) ?_ ?_
      rotate_left
      ·
       show Act.put _ (some 5) _=_
       simp only[Act.put,sA_,sB_,sC_,i64_w,i32_w]
       rfl
      exact norm_ Z28 (hJ3_7_17 (gbob) _ ⟨hHeld,(Z1 HOoc),(bb_ BKoa),(bb_ BKob),GWob.1,GEob.1,NBoa_ob.1,NBob_oa.1,ZB⟩)
     skip
     rintro gbob w54 ⟨hS_,h0_,h1_,h2_,h3_,h4_,h5_,h6_,h7_⟩
     have n0_:Aside0 (Kd.R Kd.string 9 w54 w.heap.size (fun _=>True) (.slice (some ad717) t714.length co51) t714):=⟨h0_⟩
     have n1_:Aside0 (w54.heap[gboa]?=some (.cells #[.int .i64 0,.int .i64 0,.int .i64 0,.int .i64 0] 37 (0,0))):=⟨h1_⟩
     have n2_:Aside0 (w54.heap[gbob]?=some (.cells #[.int .i64 0,.int .i64 0,.int .i64 0,.int .i64 0] 37 (0,0))):=⟨h2_⟩
     have n3_:Aside0 (w.heap.size≤gbob):=⟨h3_⟩
     have n4_:Aside0 (w.heap.size≤gbob):=⟨h4_⟩
     have n5_:Aside0 (gboa≠gbob):=⟨h5_⟩
     have n6_:Aside0 (gbob≠gboa):=⟨h6_⟩
     have n7_:Aside0 (Below w.heap.size w w54):=⟨h7_⟩
     clear HOoc
     clear BKoa
     clear HB
     clear h0_ h1_ h2_ h3_ h4_ h5_ h6_ h7_
     have HOoc:=n0_
     have BKoa:=n1_
     have BKob:=n2_
     have GWob:=n3_
     have GEob:=n4_
     have NBoa_ob:=n5_
     have NBob_oa:=n6_
     have HB:=n7_
     clear n0_ n1_ n2_ n3_ n4_ n5_ n6_ n7_
     have hHeld:w54.cell? ad717=some (.string (rdOf ByteArray.empty t714 0))∧w54.cell? ⟨ad717.block,ad717.off+1,none⟩=some (.string (rdOf ByteArray.empty t714 1))∧w54.cell? ⟨ad717.block,ad717.off+2,none⟩=some (.string (rdOf ByteArray.empty t714 2))∧w54.cell? ⟨ad717.block,ad717.off+3,none⟩=some (.string (rdOf ByteArray.empty t714 3)):=hS_
     refine norm_ (a':=?_) ?_ ?_
     rotate_left
     ·
      simp only[putAll,Act.put,sA_,sB_,sC_]
      rfl
     refine one_ (i:=11) (N:=some 23) M59 rfl rfl (one_of HT_.out Z19) (by decide) (fun K hK=>?_)
     refine goes_ Tryz.func67 Z19 rfl #[.string (rdOf ByteArray.empty t714 2)] (by rfl) rfl rfl Z18 ?_
     with_reducible refine(spec_ciRead.calls k (rdOf ByteArray.empty t714 2) t722 _ A9.1).mono ?_
     rintro e w' ⟨rfl,⟨nd,rfl⟩⟩
     refine⟨_,rfl,?_⟩
     refine hK.out _ _ ⟨hHeld.1,hHeld.2.1,hHeld.2.2.1,hHeld.2.2.2⟩ (fun hHeld=>?_)
     clear hK K
     refine norm_ (a':=?_) ?_ ?_
     rotate_left
     ·
      show Act.put _ (some 23) _=_
      simp only[Act.put,sA_,sB_,sC_,i64_w,i32_w]
      rfl
     exact norm_ Z28 (hJ3_7_11_17 (gbob) _ ⟨hHeld,(Z1 HOoc),(bb_ BKoa),(bb_ BKob),GWob.1,GEob.1,NBoa_ob.1,NBob_oa.1,ZB⟩)
    skip
    rintro _ w53 ⟨hS_,h0_,h1_,h2_⟩
    have n0_:Aside0 (Kd.R Kd.string 9 w53 w.heap.size (fun _=>True) (.slice (some ad717) t714.length co51) t714):=⟨h0_⟩
    have n1_:Aside0 (w53.heap[gboa]?=some (.cells #[.int .i64 0,.int .i64 0,.int .i64 0,.int .i64 0] 37 (0,0))):=⟨h1_⟩
    have n2_:Aside0 (Below w.heap.size w w53):=⟨h2_⟩
    clear HOoc
    clear BKoa
    clear HB
    clear h0_ h1_ h2_
    have HOoc:=n0_
    have BKoa:=n1_
    have HB:=n2_
    clear n0_ n1_ n2_
    have hHeld:w53.cell? ad717=some (.string (rdOf ByteArray.empty t714 0))∧w53.cell? ⟨ad717.block,ad717.off+1,none⟩=some (.string (rdOf ByteArray.empty t714 1))∧w53.cell? ⟨ad717.block,ad717.off+2,none⟩=some (.string (rdOf ByteArray.empty t714 2))∧w53.cell? ⟨ad717.block,ad717.off+3,none⟩=some (.string (rdOf ByteArray.empty t714 3)):=hS_
    refine norm_ (a':=?_) ?_ ?_
    rotate_left
    ·
     simp only[putAll,Act.put,sA_,sB_,sC_]
     rfl
    refine two_ (i:=15) (j:=17) (Ni:=some 27) (Nj:=some 5) M61 M59 rfl rfl rfl rfl (two_of HT_.out Z19) (by decide) (by decide) (fun K hK=>?_) (fun K hK=>?_)
    ·
     skip
     refine goes_ Tryz.func67 Z19 rfl #[.string (rdOf ByteArray.empty t714 3)] (by rfl) rfl rfl Z18 ?_
     with_reducible refine(spec_ciRead.calls k (rdOf ByteArray.empty t714 3) t724 _ A11.1).mono ?_
     rintro e w' ⟨rfl,⟨nd,rfl⟩⟩
     refine⟨_,rfl,?_⟩
     refine hK.out _ _ ⟨hHeld.1,hHeld.2.1,hHeld.2.2.1,hHeld.2.2.2⟩ (fun hHeld=>?_)
     clear hK K
     refine norm_ (a':=?_) ?_ ?_
     rotate_left
     ·
      show Act.put _ (some 27) _=_
      simp only[Act.put,sA_,sB_,sC_,i64_w,i32_w]
      rfl
     refine purz_ 16 28 M63 HT_ ?_
     exact norm_ Z28 (hJ3_7_11_15 () _ ⟨hHeld,(Z1 HOoc),(bb_ BKoa),ZB⟩)
    skip
    refine box_step ?hg (N:=5) ?hd (cs:=#[.int .i64 0,.int .i64 0,.int .i64 0,.int .i64 0]) (t:=37) ?hr ?_;(case hd=>rfl);(case hg=>rfl);(case hr=>first|(go_simp;done)|(go_simp;rfl))
    intro gbob hg w54 hbox hb
    have HS0_:=(hb.cell (World.block_lt_of_cell? _ _ (hHeld.1))).trans (hHeld.1)
    have HS1_:=(hb.cell (World.block_lt_of_cell? _ _ (hHeld.2.1))).trans (hHeld.2.1)
    have HS2_:=(hb.cell (World.block_lt_of_cell? _ _ (hHeld.2.2.1))).trans (hHeld.2.2.1)
    have HS3_:=(hb.cell (World.block_lt_of_cell? _ _ (hHeld.2.2.2))).trans (hHeld.2.2.2)
    have n0_:=am (Kd.R_below (Z1 HOoc) hb)
    have n1_:=bk_ BKoa hb
    have n2_:=bw_ hb
    have n3_:=am (hbox)
    have n4_:=am ((by rw[hg];exact zs_:w.heap.size≤gbob))
    have n5_:=am ((by rw[hg];exact zs_:w.heap.size≤gbob))
    have n6_:=am ((by rw[hg];exact Nat.ne_of_lt (blk_lt (bb_ BKoa)):gboa≠gbob))
    have n7_:=am ((by rw[hg];exact Nat.ne_of_gt (blk_lt (bb_ BKoa)):gbob≠gboa))
    clear HOoc
    clear BKoa
    clear HB
    have HOoc:=n0_
    have BKoa:=n1_
    have HB:=n2_
    have BKob:=n3_
    have GWob:=n4_
    have GEob:=n5_
    have NBoa_ob:=n6_
    have NBob_oa:=n7_
    clear n0_ n1_ n2_ n3_ n4_ n5_ n6_ n7_
    clear hb hbox hg
    refine hK.out _ _ ⟨HS0_,HS1_,HS2_,HS3_⟩ (fun hHeld=>?_)
    clear hK K
    refine norm_ (a':=?_) ?_ ?_
    rotate_left
    ·
     show Act.put _ (some 5) _=_
     simp only[Act.put,sA_,sB_,sC_,i64_w,i32_w]
     rfl
    exact norm_ Z28 (hJ3_7_11_17 (gbob) _ ⟨hHeld,(Z1 HOoc),(bb_ BKoa),(bb_ BKob),GWob.1,GEob.1,NBoa_ob.1,NBob_oa.1,ZB⟩)
   skip
   rintro gbob w54 ⟨hS_,h0_,h1_,h2_,h3_,h4_,h5_,h6_,h7_⟩
   have n0_:Aside0 (Kd.R Kd.string 9 w54 w.heap.size (fun _=>True) (.slice (some ad717) t714.length co51) t714):=⟨h0_⟩
   have n1_:Aside0 (w54.heap[gboa]?=some (.cells #[.int .i64 0,.int .i64 0,.int .i64 0,.int .i64 0] 37 (0,0))):=⟨h1_⟩
   have n2_:Aside0 (w54.heap[gbob]?=some (.cells #[.int .i64 0,.int .i64 0,.int .i64 0,.int .i64 0] 37 (0,0))):=⟨h2_⟩
   have n3_:Aside0 (w.heap.size≤gbob):=⟨h3_⟩
   have n4_:Aside0 (w.heap.size≤gbob):=⟨h4_⟩
   have n5_:Aside0 (gboa≠gbob):=⟨h5_⟩
   have n6_:Aside0 (gbob≠gboa):=⟨h6_⟩
   have n7_:Aside0 (Below w.heap.size w w54):=⟨h7_⟩
   clear HOoc
   clear BKoa
   clear HB
   clear h0_ h1_ h2_ h3_ h4_ h5_ h6_ h7_
   have HOoc:=n0_
   have BKoa:=n1_
   have BKob:=n2_
   have GWob:=n3_
   have GEob:=n4_
   have NBoa_ob:=n5_
   have NBob_oa:=n6_
   have HB:=n7_
   clear n0_ n1_ n2_ n3_ n4_ n5_ n6_ n7_
   have hHeld:w54.cell? ad717=some (.string (rdOf ByteArray.empty t714 0))∧w54.cell? ⟨ad717.block,ad717.off+1,none⟩=some (.string (rdOf ByteArray.empty t714 1))∧w54.cell? ⟨ad717.block,ad717.off+2,none⟩=some (.string (rdOf ByteArray.empty t714 2))∧w54.cell? ⟨ad717.block,ad717.off+3,none⟩=some (.string (rdOf ByteArray.empty t714 3)):=hS_
   refine norm_ (a':=?_) ?_ ?_
   rotate_left
   ·
    simp only[putAll,Act.put,sA_,sB_,sC_]
    rfl
   refine one_ (i:=15) (N:=some 27) #[true,true,true,true,true,true,true,true,true,true,true,true,true,true,true,true,false,true,false] rfl rfl (one_of HT_.out Z19) (by decide) (fun K hK=>?_)
   refine goes_ Tryz.func67 Z19 rfl #[.string (rdOf ByteArray.empty t714 3)] (by rfl) rfl rfl Z18 ?_
   with_reducible refine(spec_ciRead.calls k (rdOf ByteArray.empty t714 3) t724 _ A11.1).mono ?_
   rintro e w' ⟨rfl,⟨nd,rfl⟩⟩
   refine⟨_,rfl,?_⟩
   refine hK.out _ _ ⟨hHeld.1,hHeld.2.1,hHeld.2.2.1,hHeld.2.2.2⟩ (fun hHeld=>?_)
   clear hK K
   refine norm_ (a':=?_) ?_ ?_
   rotate_left
   ·
    show Act.put _ (some 27) _=_
    simp only[Act.put,sA_,sB_,sC_,i64_w,i32_w]
    rfl
   refine purz_ 16 28 M64 HT_ ?_
   exact norm_ Z28 (hJ3_7_11_15_17 (gbob) _ ⟨hHeld,(Z1 HOoc),(bb_ BKoa),(bb_ BKob),GWob.1,GEob.1,NBoa_ob.1,NBob_oa.1,ZB⟩)
  skip
  rintro _ w53 ⟨hS_,h0_,h1_,h2_⟩
  have n0_:Aside0 (Kd.R Kd.string 9 w53 w.heap.size (fun _=>True) (.slice (some ad717) t714.length co51) t714):=⟨h0_⟩
  have n1_:Aside0 (w53.heap[gboa]?=some (.cells #[.int .i64 0,.int .i64 0,.int .i64 0,.int .i64 0] 37 (0,0))):=⟨h1_⟩
  have n2_:Aside0 (Below w.heap.size w w53):=⟨h2_⟩
  clear HOoc
  clear BKoa
  clear HB
  clear h0_ h1_ h2_
  have HOoc:=n0_
  have BKoa:=n1_
  have HB:=n2_
  clear n0_ n1_ n2_
  have hHeld:w53.cell? ad717=some (.string (rdOf ByteArray.empty t714 0))∧w53.cell? ⟨ad717.block,ad717.off+1,none⟩=some (.string (rdOf ByteArray.empty t714 1))∧w53.cell? ⟨ad717.block,ad717.off+2,none⟩=some (.string (rdOf ByteArray.empty t714 2))∧w53.cell? ⟨ad717.block,ad717.off+3,none⟩=some (.string (rdOf ByteArray.empty t714 3)):=hS_
  refine norm_ (a':=?_) ?_ ?_
  rotate_left
  ·
   simp only[putAll,Act.put,sA_,sB_,sC_]
   rfl
  refine one_ (i:=17) (N:=some 5) M64 rfl rfl (one_of HT_.out Z19) (by decide) (fun K hK=>?_)
  refine box_step ?hg (N:=5) ?hd (cs:=#[.int .i64 0,.int .i64 0,.int .i64 0,.int .i64 0]) (t:=37) ?hr ?_;(case hd=>rfl);(case hg=>rfl);(case hr=>first|(go_simp;done)|(go_simp;rfl))
  intro gbob hg w54 hbox hb
  have HS0_:=(hb.cell (World.block_lt_of_cell? _ _ (hHeld.1))).trans (hHeld.1)
  have HS1_:=(hb.cell (World.block_lt_of_cell? _ _ (hHeld.2.1))).trans (hHeld.2.1)
  have HS2_:=(hb.cell (World.block_lt_of_cell? _ _ (hHeld.2.2.1))).trans (hHeld.2.2.1)
  have HS3_:=(hb.cell (World.block_lt_of_cell? _ _ (hHeld.2.2.2))).trans (hHeld.2.2.2)
  have n0_:=am (Kd.R_below (Z1 HOoc) hb)
  have n1_:=bk_ BKoa hb
  have n2_:=bw_ hb
  have n3_:=am (hbox)
  have n4_:=am ((by rw[hg];exact zs_:w.heap.size≤gbob))
  have n5_:=am ((by rw[hg];exact zs_:w.heap.size≤gbob))
  have n6_:=am ((by rw[hg];exact Nat.ne_of_lt (blk_lt (bb_ BKoa)):gboa≠gbob))
  have n7_:=am ((by rw[hg];exact Nat.ne_of_gt (blk_lt (bb_ BKoa)):gbob≠gboa))
  clear HOoc
  clear BKoa
  clear HB
  have HOoc:=n0_
  have BKoa:=n1_
  have HB:=n2_
  have BKob:=n3_
  have GWob:=n4_
  have GEob:=n5_
  have NBoa_ob:=n6_
  have NBob_oa:=n7_
  clear n0_ n1_ n2_ n3_ n4_ n5_ n6_ n7_
  clear hb hbox hg
  refine hK.out _ _ ⟨HS0_,HS1_,HS2_,HS3_⟩ (fun hHeld=>?_)
  clear hK K
  refine norm_ (a':=?_) ?_ ?_
  rotate_left
  ·
   show Act.put _ (some 5) _=_
   simp only[Act.put,sA_,sB_,sC_,i64_w,i32_w]
   rfl
  exact norm_ Z28 (hJ3_7_11_15_17 (gbob) _ ⟨hHeld,(Z1 HOoc),(bb_ BKoa),(bb_ BKob),GWob.1,GEob.1,NBoa_ob.1,NBob_oa.1,ZB⟩)
 rintro gbob w54 ⟨hS_,h0_,h1_,h2_,h3_,h4_,h5_,h6_,h7_⟩
 have n0_:Aside0 (Kd.R Kd.string 9 w54 w.heap.size (fun _=>True) (.slice (some ad717) t714.length co51) t714):=⟨h0_⟩
 have n1_:Aside0 (w54.heap[gboa]?=some (.cells #[.int .i64 0,.int .i64 0,.int .i64 0,.int .i64 0] 37 (0,0))):=⟨h1_⟩
 have n2_:Aside0 (w54.heap[gbob]?=some (.cells #[.int .i64 0,.int .i64 0,.int .i64 0,.int .i64 0] 37 (0,0))):=⟨h2_⟩
 have n3_:Aside0 (w.heap.size≤gbob):=⟨h3_⟩
 have n4_:Aside0 (w.heap.size≤gbob):=⟨h4_⟩
 have n5_:Aside0 (gboa≠gbob):=⟨h5_⟩
 have n6_:Aside0 (gbob≠gboa):=⟨h6_⟩
 have n7_:Aside0 (Below w.heap.size w w54):=⟨h7_⟩
 clear HOoc
 clear BKoa
 clear HB
 clear h0_ h1_ h2_ h3_ h4_ h5_ h6_ h7_
 have HOoc:=n0_
 have BKoa:=n1_
 have BKob:=n2_
 have GWob:=n3_
 have GEob:=n4_
 have NBoa_ob:=n5_
 have NBob_oa:=n6_
 have HB:=n7_
 clear n0_ n1_ n2_ n3_ n4_ n5_ n6_ n7_
 have hHeld:w54.cell? ad717=some (.string (rdOf ByteArray.empty t714 0))∧w54.cell? ⟨ad717.block,ad717.off+1,none⟩=some (.string (rdOf ByteArray.empty t714 1))∧w54.cell? ⟨ad717.block,ad717.off+2,none⟩=some (.string (rdOf ByteArray.empty t714 2))∧w54.cell? ⟨ad717.block,ad717.off+3,none⟩=some (.string (rdOf ByteArray.empty t714 3)):=hS_
 refine norm_ (a':=?_) ?_ ?_
 rotate_left
 ·
  simp only[putAll,Act.put,sA_,sB_,sC_]
  rfl
 refine one_ (i:=18) (N:=none) M65 rfl rfl (one_of HT_.out Z19) (by decide) (fun K hK=>?_)
 have hs55:w54.cell? ⟨gbob,0,none⟩=some (.int .i64 0):=(blk_cell BKob.1 0).trans rfl
 have hfs55:=blk_frozen BKob.1 0
 have hns55_0:=NBoa_ob.1
 have hms55_0:=NBob_oa.1
 have hs56:w54.cell? ⟨gbob,1,none⟩=some (.int .i64 0):=(blk_cell BKob.1 1).trans rfl
 have hfs56:=blk_frozen BKob.1 1
 have hns56_0:=NBoa_ob.1
 have hms56_0:=NBob_oa.1
 have hs57:w54.cell? ⟨gbob,2,none⟩=some (.int .i64 0):=(blk_cell BKob.1 2).trans rfl
 have hfs57:=blk_frozen BKob.1 2
 have hns57_0:=NBoa_ob.1
 have hms57_0:=NBob_oa.1
 have hs58:w54.cell? ⟨gbob,3,none⟩=some (.int .i64 0):=(blk_cell BKob.1 3).trans rfl
 have hfs58:=blk_frozen BKob.1 3
 have hns58_0:=NBoa_ob.1
 have hms58_0:=NBob_oa.1
 refine skip_ (w1:=?_) (by rfl) rfl ?_ ?_
 rotate_left
 ·
  go_simp
  rfl
 refine hK.out _ _ ⟨((cell_far (p:=⟨gbob,_,none⟩) (Z3 HOoc BKob) _).trans (((cell_far (p:=⟨gbob,_,none⟩) (Z3 HOoc BKob) _).trans (((cell_far (p:=⟨gbob,_,none⟩) (Z3 HOoc BKob) _).trans (((cell_far (p:=⟨gbob,_,none⟩) (Z3 HOoc BKob) _).trans (hHeld.1)))))))),((cell_far (p:=⟨gbob,_,none⟩) (Z3 HOoc BKob) _).trans (((cell_far (p:=⟨gbob,_,none⟩) (Z3 HOoc BKob) _).trans (((cell_far (p:=⟨gbob,_,none⟩) (Z3 HOoc BKob) _).trans (((cell_far (p:=⟨gbob,_,none⟩) (Z3 HOoc BKob) _).trans (hHeld.2.1)))))))),((cell_far (p:=⟨gbob,_,none⟩) (Z3 HOoc BKob) _).trans (((cell_far (p:=⟨gbob,_,none⟩) (Z3 HOoc BKob) _).trans (((cell_far (p:=⟨gbob,_,none⟩) (Z3 HOoc BKob) _).trans (((cell_far (p:=⟨gbob,_,none⟩) (Z3 HOoc BKob) _).trans (hHeld.2.2.1)))))))),((cell_far (p:=⟨gbob,_,none⟩) (Z3 HOoc BKob) _).trans (((cell_far (p:=⟨gbob,_,none⟩) (Z3 HOoc BKob) _).trans (((cell_far (p:=⟨gbob,_,none⟩) (Z3 HOoc BKob) _).trans (((cell_far (p:=⟨gbob,_,none⟩) (Z3 HOoc BKob) _).trans (hHeld.2.2.2))))))))⟩ (fun hHeld=>?_)
 clear hK K
 refine done_ (done_of HT_.out Z19) ?_
 have hnb59:=NBob_oa.1
 have hnc59:=NBoa_ob.1
 have hcz60_0:w54.cell? ⟨gbob,0,none⟩=some (.int .i64 0):=(blk_cell BKob.1 0).trans rfl
 have hcz60_1:w54.cell? ⟨gbob,1,none⟩=some (.int .i64 0):=(blk_cell BKob.1 1).trans rfl
 have hcz60_2:w54.cell? ⟨gbob,2,none⟩=some (.int .i64 0):=(blk_cell BKob.1 2).trans rfl
 have hcz60_3:w54.cell? ⟨gbob,3,none⟩=some (.int .i64 0):=(blk_cell BKob.1 3).trans rfl
 have hfz60_0:=blk_frozen BKob.1 0
 have hfz60_1:=blk_frozen BKob.1 1
 have hfz60_2:=blk_frozen BKob.1 2
 have hfz60_3:=blk_frozen BKob.1 3
 by_cases c13:t726=true
 rotate_left
 ·
  replace c13:=Bool.eq_false_iff.mpr c13
  subst c13
  rw[if_neg (show¬(false=true) by decide)]at H
  simp only[Option.some.injEq,Prod.mk.injEq]at H
  obtain⟨rfl,rfl,rfl,rfl,rfl⟩:=H
  try go_wp2_with (first|((with_reducible refine gc_ 47 rfl ?_);refine gM_ (some 30) Tryz.func47 (spec_ciGood.calls k t718 t720 t722 t724 false _ A12.1) ?_;intro w61 hb;replace HOoc:=am (Kd.R_below Z41 hb);replace BKoa:=bk_ BKoa hb;replace BKob:=bk_ BKob hb;replace HB:=bw_ hb;clear hb;obtain⟨_,_,_,_,_,_,_,_⟩:=cz4_ BKoa))
  refine bodyPost_ret (results_ct rfl _ _ gboa 37 #[.int .i64 0,.int .i64 0,.int .i64 0,.int .i64 0] (0,0) _ rfl (bb_ BKoa) Tryz.underlying37 rfl Z19) rfl ?_
  exact⟨Z6,ZB⟩
 subst c13
 rw[if_pos rfl]at H
 obtain⟨t727,A14,H⟩:=bs_ H
 try dsimp only at H
 by_cases c15:t727.toList=a0.toList
 ·
  rw[if_pos c15]at H
  obtain⟨c15b0,c15b1⟩:=eq2_ c15
  clear c15
  simp only[Option.some.injEq,Prod.mk.injEq]at H
  obtain⟨rfl,rfl,rfl,rfl,rfl⟩:=H
  try go_wp2_with (first|((with_reducible refine gc_ 47 rfl ?_);refine gM_ (some 30) Tryz.func47 (spec_ciGood.calls k t718 t720 t722 t724 true _ A12.1) ?_;intro w28 hb;replace HOoc:=am (Kd.R_below Z41 hb);replace BKoa:=bk_ BKoa hb;replace BKob:=bk_ BKob hb;replace HB:=bw_ hb;clear hb;obtain⟨_,_,_,_,_,_,_,_⟩:=cz4_ BKob)|(go_at_call 62;(with_reducible refine(spec_ciText.calls k t718 t720 t722 t724 t727 _ A14.1).mono ?_);rintro e w30 ⟨rfl,hb⟩;replace HOoc:=am (Kd.R_below (Z1 HOoc) hb);replace BKoa:=bk_ BKoa hb;replace BKob:=bk_ BKob hb;replace HB:=bw_ hb;clear hb;obtain⟨_,_,_,_,_,_,_,_⟩:=cz4_ BKob;obtain⟨_,_,_,_,_,_,_,_⟩:=cz4_ BKoa))
  refine bodyPost_ret (results_ct rfl _ _ gboa 37 #[.int .i64 t718,.int .i64 t720,.int .i64 t722,.int .i64 t724] (0,0) _ rfl (bb_ BKoa) Tryz.underlying37 rfl Z19) rfl ?_
  exact⟨Z6,ZB⟩
 rw[if_neg c15]at H
 obtain⟨c15b0,c15b1⟩:=ne2_ c15
 simp only[Option.some.injEq,Prod.mk.injEq]at H
 obtain⟨rfl,rfl,rfl,rfl,rfl⟩:=H
 try go_wp2_with (first|((with_reducible refine gc_ 47 rfl ?_);refine gM_ (some 30) Tryz.func47 (spec_ciGood.calls k t718 t720 t722 t724 true _ A12.1) ?_;intro w45 hb;replace HOoc:=am (Kd.R_below Z41 hb);replace BKoa:=bk_ BKoa hb;replace BKob:=bk_ BKob hb;replace HB:=bw_ hb;clear hb;obtain⟨_,_,_,_,_,_,_,_⟩:=cz4_ BKob)|(go_at_call 62;(with_reducible refine(spec_ciText.calls k t718 t720 t722 t724 t727 _ A14.1).mono ?_);rintro e w47 ⟨rfl,hb⟩;replace HOoc:=am (Kd.R_below (Z1 HOoc) hb);replace BKoa:=bk_ BKoa hb;replace BKob:=bk_ BKob hb;replace HB:=bw_ hb;clear hb;obtain⟨_,_,_,_,_,_,_,_⟩:=cz4_ BKoa))
 refine bodyPost_ret (results_ct rfl _ _ gboa 37 #[.int .i64 0,.int .i64 0,.int .i64 0,.int .i64 0] (0,0) _ rfl (bb_ BKoa) Tryz.underlying37 rfl Z19) rfl ?_
 exact⟨Z6,ZB⟩
section
attribute [local go_sem high] eqA37
mutual
def laws_FnCirclesOfPackings.j0:Nat→List Int→List (S37)→Int→List (S37)→Bool→Bool→Option (Bool)
  |0,_,_,_,_,_,_=>none
  |k+1,x1,x5,x6,x7,x8,x74=>if x74=true then(some false)else(if x8=true then((impl_CurvaturesOf.f k x5).bind fun bt742=>((impl_CountUpTo.f k bt742.1 x6).bind fun bt746=>((impl_CurvaturesUpTo.f k bt742.1 x6).bind fun bt748=>(if bt742.2=true then(if bt746.2=true then(if bt746.1=(x7.length:Int)then(laws_FnCirclesOfPackings.j1 k x1 x6 x7 bt748.1 (!bt748.2))else(laws_FnCirclesOfPackings.j1 k x1 x6 x7 bt748.1 true))else(laws_FnCirclesOfPackings.j1 k x1 x6 x7 bt748.1 true))else(laws_FnCirclesOfPackings.j1 k x1 x6 x7 bt748.1 true)))))else(laws_FnCirclesOfPackings.j5 k x1))
def laws_FnCirclesOfPackings.j5:Nat→List Int→Option (Bool)
  |0,_=>none
  |k+1,x1=>(spec_DrawTouchingPairs.f k x1).bind fun t764=>((impl_TouchingPairs.f k t764).bind fun bt767=>((spec_TouchingPairs.f k t764).bind fun bt771=>(if(bt767.2 != bt771.2)=true then(laws_FnCirclesOfPackings.j6 k x1 t764 bt767.1 true)else((laws_dLists.f k bt767.1 bt771.1).bind fun t775=>(laws_FnCirclesOfPackings.j6 k x1 t764 bt767.1 (!t775))))))
def laws_FnCirclesOfPackings.j6:Nat→List Int→List (S37)→List (List Int)→Bool→Option (Bool)
  |0,_,_,_,_=>none
  |k+1,x1,x23,x24,x174=>if x174=true then(some false)else(laws_FnCirclesOfPackings.l2 k x1 x23 x24 x24 (x24.length:Int) 0)
def laws_FnCirclesOfPackings.l2:Nat→List Int→List (S37)→List (List Int)→List (List Int)→Int→Int→Option (Bool)
  |0,_,_,_,_,_,_=>none
  |k+1,x1,x23,x24,x175,x176,x177=>if x177<x176 then(if 0≤x177 then(if x177<(x175.length:Int)then(if 0<((rd_L5 x175 x177).length:Int)then(if 0≤(rd (rd_L5 x175 x177) 0)then(if(rd (rd_L5 x175 x177) 0)<(x23.length:Int)then(if 1<((rd_L5 x175 x177).length:Int)then(if 0≤(rd (rd_L5 x175 x177) 1)then(if(rd (rd_L5 x175 x177) 1)<(x23.length:Int)then((impl_DoTouch.f ((rd_T37 x23 (rd (rd_L5 x175 x177) 0)).f0) ((rd_T37 x23 (rd (rd_L5 x175 x177) 0)).f1) ((rd_T37 x23 (rd (rd_L5 x175 x177) 0)).f2) ((rd_T37 x23 (rd (rd_L5 x175 x177) 0)).f3) ((rd_T37 x23 (rd (rd_L5 x175 x177) 1)).f0) ((rd_T37 x23 (rd (rd_L5 x175 x177) 1)).f1) ((rd_T37 x23 (rd (rd_L5 x175 x177) 1)).f2) ((rd_T37 x23 (rd (rd_L5 x175 x177) 1)).f3)).bind fun bt781=>(if bt781.2=true then(if bt781.1=true then(if(rd (rd_L5 x175 x177) 0)≥(rd (rd_L5 x175 x177) 1)then(some false)else(if x177>0 then(if 0≤(wrap64 (x177-1))then(if(wrap64 (x177-1))<(x24.length:Int)then((laws_dLess.f k (rd_L5 x24 (wrap64 (x177-1))) (rd_L5 x175 x177)).bind fun t786=>(if t786=true then(laws_FnCirclesOfPackings.l2 k x1 x23 x24 x175 x176 (wrap64 (x177+1)))else(some false)))else(none))else(none))else(laws_FnCirclesOfPackings.l2 k x1 x23 x24 x175 x176 (wrap64 (x177+1)))))else(some false))else(some false)))else(none))else(none))else(none))else(none))else(none))else(none))else(none))else(none))else((spec_DrawCircleText.f k x1).bind fun bt787=>((impl_CircleText.f k bt787.1 bt787.2.1 bt787.2.2.1 bt787.2.2.2).bind fun bt792=>((spec_CircleText.f k bt787.1 bt787.2.1 bt787.2.2.1 bt787.2.2.2).bind fun bt794=>(if(bt792.2 != bt794.2)=true then(laws_FnCirclesOfPackings.j8 k x1 bt792.1 bt792.2 true bt787.1 bt787.2.1 bt787.2.2.1 bt787.2.2.2)else(if bt792.1.toList=bt794.1.toList then((impl_IsCircle.f bt787.1 bt787.2.1 bt787.2.2.1 bt787.2.2.2).bind fun t796=>(laws_FnCirclesOfPackings.j8 k x1 bt792.1 bt792.2 (bt792.2 != t796) bt787.1 bt787.2.1 bt787.2.2.1 bt787.2.2.2))else(laws_FnCirclesOfPackings.j8 k x1 bt792.1 bt792.2 true bt787.1 bt787.2.1 bt787.2.2.1 bt787.2.2.2))))))
def laws_FnCirclesOfPackings.j8:Nat→List Int→ByteArray→Bool→Bool→Int→Int→Int→Int→Option (Bool)
  |0,_,_,_,_,_,_,_,_=>none
  |k+1,x1,x33,x34,x253,x792000,x792001,x792002,x792003=>if x253=true then(some false)else(if x34=true then((impl_ParseCircle.f k x33).bind fun bt797=>(if bt797.2.2.2.2=true then(if(!(bt797.1==x792000)||(!(bt797.2.1==x792001)||(!(bt797.2.2.1==x792002)||(!(bt797.2.2.2.1==x792003)))))=true then(some false)else(laws_FnCirclesOfPackings.j9 k x1))else(some false)))else(laws_FnCirclesOfPackings.j9 k x1))
def laws_FnCirclesOfPackings.j9:Nat→List Int→Option (Bool)
  |0,_=>none
  |k+1,x1=>(spec_DrawParseCircle.f k x1).bind fun t803=>((impl_ParseCircle.f k t803).bind fun bt804=>((spec_ParseCircle.f k t803).bind fun bt810=>(if(bt804.2.2.2.2 != bt810.2.2.2.2)=true then(laws_FnCirclesOfPackings.j10 k t803 bt804.2.2.2.2 true bt804.1 bt804.2.1 bt804.2.2.1 bt804.2.2.2.1)else(laws_FnCirclesOfPackings.j10 k t803 bt804.2.2.2.2 (!(bt804.1==bt810.1)||(!(bt804.2.1==bt810.2.1)||(!(bt804.2.2.1==bt810.2.2.1)||(!(bt804.2.2.2.1==bt810.2.2.2.1))))) bt804.1 bt804.2.1 bt804.2.2.1 bt804.2.2.2.1))))
def laws_FnCirclesOfPackings.j10:Nat→ByteArray→Bool→Bool→Int→Int→Int→Int→Option (Bool)
  |0,_,_,_,_,_,_,_=>none
  |k+1,x39,x41,x286,x810000,x810001,x810002,x810003=>if x286=true then(some false)else(if x41=true then((impl_CircleText.f k x810000 x810001 x810002 x810003).bind fun bt816=>(if bt816.2=true then(some (bt816.1.toList==x39.toList))else(some false)))else(some true))
def laws_FnCirclesOfPackings.j1:Nat→List Int→Int→List (S37)→List Int→Bool→Option (Bool)
  |0,_,_,_,_,_=>none
  |k+1,x1,x6,x7,x15,x108=>if x108=true then(some false)else(laws_FnCirclesOfPackings.l0 k x1 x6 x7 x15 x7 (x7.length:Int) 0)
def laws_FnCirclesOfPackings.l0:Nat→List Int→Int→List (S37)→List Int→List (S37)→Int→Int→Option (Bool)
  |0,_,_,_,_,_,_,_=>none
  |k+1,x1,x6,x7,x15,x109,x110,x111=>if x111<x110 then(if 0≤x111 then(if x111<(x109.length:Int)then((impl_IsCircle.f ((rd_T37 x109 x111).f0) ((rd_T37 x109 x111).f1) ((rd_T37 x109 x111).f2) ((rd_T37 x109 x111).f3)).bind fun t754=>(if t754=true then(if((rd_T37 x109 x111).f1)>x6 then(laws_FnCirclesOfPackings.j3 k x1 x6 x7 x15 x111 x109 x110 x111 true ((rd_T37 x109 x111).f0) ((rd_T37 x109 x111).f1) ((rd_T37 x109 x111).f2) ((rd_T37 x109 x111).f3))else((laws_dHas.f k x15 ((rd_T37 x109 x111).f1)).bind fun t755=>(laws_FnCirclesOfPackings.j3 k x1 x6 x7 x15 x111 x109 x110 x111 (!t755) ((rd_T37 x109 x111).f0) ((rd_T37 x109 x111).f1) ((rd_T37 x109 x111).f2) ((rd_T37 x109 x111).f3))))else(laws_FnCirclesOfPackings.j3 k x1 x6 x7 x15 x111 x109 x110 x111 true ((rd_T37 x109 x111).f0) ((rd_T37 x109 x111).f1) ((rd_T37 x109 x111).f2) ((rd_T37 x109 x111).f3))))else(none))else(none))else(laws_FnCirclesOfPackings.j5 k x1)
def laws_FnCirclesOfPackings.j3:Nat→List Int→Int→List (S37)→List Int→Int→List (S37)→Int→Int→Bool→Int→Int→Int→Int→Option (Bool)
  |0,_,_,_,_,_,_,_,_,_,_,_,_,_=>none
  |k+1,x1,x6,x7,x15,x17,x109,x110,x111,x131,x754000,x754001,x754002,x754003=>if x131=true then(some false)else(if 0≤x17 then(if x17≤(x7.length:Int)then((some (x7.take (x17:Int).toNat:List (S37))).bind fun y756=>(laws_FnCirclesOfPackings.l1 k x1 x6 x7 x15 x109 x110 x111 y756 (y756.length:Int) 0 x754000 x754001 x754002 x754003))else(none))else(none))
def laws_FnCirclesOfPackings.l1:Nat→List Int→Int→List (S37)→List Int→List (S37)→Int→Int→List (S37)→Int→Int→Int→Int→Int→Int→Option (Bool)
  |0,_,_,_,_,_,_,_,_,_,_,_,_,_,_=>none
  |k+1,x1,x6,x7,x15,x109,x110,x111,x134,x135,x136,x754000,x754001,x754002,x754003=>if x136<x135 then(if 0≤x136 then(if x136<(x134.length:Int)then((impl_TwiceProduct.f x754000 x754001 x754002 x754003 ((rd_T37 x134 x136).f0) ((rd_T37 x134 x136).f1) ((rd_T37 x134 x136).f2) ((rd_T37 x134 x136).f3)).bind fun bt762=>(if bt762.2=true then(if bt762.1>(-2)then(some false)else(laws_FnCirclesOfPackings.l1 k x1 x6 x7 x15 x109 x110 x111 x134 x135 (wrap64 (x136+1)) x754000 x754001 x754002 x754003))else(some false)))else(none))else(none))else(laws_FnCirclesOfPackings.l0 k x1 x6 x7 x15 x109 x110 (wrap64 (x111+1)))
end
def laws_FnCirclesOfPackings.f (k:Nat) (l0:List Int) (l1:List Int):Option (Bool):=(laws_big.f l0 l1).bind fun t728=>(if t728=true then(some true)else((spec_DrawCirclesUpTo.f k l0).bind fun bt729=>((impl_CirclesUpTo.f k bt729.1 bt729.2).bind fun bt733=>((spec_CirclesUpTo.f k bt729.1 bt729.2).bind fun bt737=>(if(bt733.2 != bt737.2)=true then(laws_FnCirclesOfPackings.j0 k l1 bt729.1 bt729.2 bt733.1 bt733.2 true)else((laws_dCircles.f k bt733.1 bt737.1).bind fun t741=>(laws_FnCirclesOfPackings.j0 k l1 bt729.1 bt729.2 bt733.1 bt733.2 (!t741))))))))
theorem laws_FnCirclesOfPackings.mono_l:∀k,(∀y0 y1 y2 y3 y4 y5,LeO (laws_FnCirclesOfPackings.j0 k y0 y1 y2 y3 y4 y5) (laws_FnCirclesOfPackings.j0 (k+1) y0 y1 y2 y3 y4 y5))∧(∀y0,LeO (laws_FnCirclesOfPackings.j5 k y0) (laws_FnCirclesOfPackings.j5 (k+1) y0))∧(∀y0 y1 y2 y3,LeO (laws_FnCirclesOfPackings.j6 k y0 y1 y2 y3) (laws_FnCirclesOfPackings.j6 (k+1) y0 y1 y2 y3))∧(∀y0 y1 y2 y3 y4 y5,LeO (laws_FnCirclesOfPackings.l2 k y0 y1 y2 y3 y4 y5) (laws_FnCirclesOfPackings.l2 (k+1) y0 y1 y2 y3 y4 y5))∧(∀y0 y1 y2 y3 y4 y5 y6 y7,LeO (laws_FnCirclesOfPackings.j8 k y0 y1 y2 y3 y4 y5 y6 y7) (laws_FnCirclesOfPackings.j8 (k+1) y0 y1 y2 y3 y4 y5 y6 y7))∧(∀y0,LeO (laws_FnCirclesOfPackings.j9 k y0) (laws_FnCirclesOfPackings.j9 (k+1) y0))∧(∀y0 y1 y2 y3 y4 y5 y6,LeO (laws_FnCirclesOfPackings.j10 k y0 y1 y2 y3 y4 y5 y6) (laws_FnCirclesOfPackings.j10 (k+1) y0 y1 y2 y3 y4 y5 y6))∧(∀y0 y1 y2 y3 y4,LeO (laws_FnCirclesOfPackings.j1 k y0 y1 y2 y3 y4) (laws_FnCirclesOfPackings.j1 (k+1) y0 y1 y2 y3 y4))∧(∀y0 y1 y2 y3 y4 y5 y6,LeO (laws_FnCirclesOfPackings.l0 k y0 y1 y2 y3 y4 y5 y6) (laws_FnCirclesOfPackings.l0 (k+1) y0 y1 y2 y3 y4 y5 y6))∧(∀y0 y1 y2 y3 y4 y5 y6 y7 y8 y9 y10 y11 y12,LeO (laws_FnCirclesOfPackings.j3 k y0 y1 y2 y3 y4 y5 y6 y7 y8 y9 y10 y11 y12) (laws_FnCirclesOfPackings.j3 (k+1) y0 y1 y2 y3 y4 y5 y6 y7 y8 y9 y10 y11 y12))∧(∀y0 y1 y2 y3 y4 y5 y6 y7 y8 y9 y10 y11 y12 y13,LeO (laws_FnCirclesOfPackings.l1 k y0 y1 y2 y3 y4 y5 y6 y7 y8 y9 y10 y11 y12 y13) (laws_FnCirclesOfPackings.l1 (k+1) y0 y1 y2 y3 y4 y5 y6 y7 y8 y9 y10 y11 y12 y13))
  |0=>⟨fun _ _ _ _ _ _ r h=>by simp[laws_FnCirclesOfPackings.j0]at h,fun _ r h=>by simp[laws_FnCirclesOfPackings.j5]at h,fun _ _ _ _ r h=>by simp[laws_FnCirclesOfPackings.j6]at h,fun _ _ _ _ _ _ r h=>by simp[laws_FnCirclesOfPackings.l2]at h,fun _ _ _ _ _ _ _ _ r h=>by simp[laws_FnCirclesOfPackings.j8]at h,fun _ r h=>by simp[laws_FnCirclesOfPackings.j9]at h,fun _ _ _ _ _ _ _ r h=>by simp[laws_FnCirclesOfPackings.j10]at h,fun _ _ _ _ _ r h=>by simp[laws_FnCirclesOfPackings.j1]at h,fun _ _ _ _ _ _ _ r h=>by simp[laws_FnCirclesOfPackings.l0]at h,fun _ _ _ _ _ _ _ _ _ _ _ _ _ r h=>by simp[laws_FnCirclesOfPackings.j3]at h,fun _ _ _ _ _ _ _ _ _ _ _ _ _ _ r h=>by simp[laws_FnCirclesOfPackings.l1]at h⟩
  |k+1=>by
    obtain⟨ih0,ih1,ih2,ih3,ih4,ih5,ih6,ih7,ih8,ih9,ih10⟩:=laws_FnCirclesOfPackings.mono_l k
    refine⟨?_,?_,?_,?_,?_,?_,?_,?_,?_,?_,?_⟩
    · intro y0 y1 y2 y3 y4 y5
      unfold laws_FnCirclesOfPackings.j0
      exact mo_
    · intro y0
      unfold laws_FnCirclesOfPackings.j5
      exact mo_
    · intro y0 y1 y2 y3
      unfold laws_FnCirclesOfPackings.j6
      exact mo_
    · intro y0 y1 y2 y3 y4 y5
      unfold laws_FnCirclesOfPackings.l2
      exact mo_
    · intro y0 y1 y2 y3 y4 y5 y6 y7
      unfold laws_FnCirclesOfPackings.j8
      exact mo_
    · intro y0
      unfold laws_FnCirclesOfPackings.j9
      exact mo_
    · intro y0 y1 y2 y3 y4 y5 y6
      unfold laws_FnCirclesOfPackings.j10
      exact mo_
    · intro y0 y1 y2 y3 y4
      unfold laws_FnCirclesOfPackings.j1
      exact mo_
    · intro y0 y1 y2 y3 y4 y5 y6
      unfold laws_FnCirclesOfPackings.l0
      exact mo_
    · intro y0 y1 y2 y3 y4 y5 y6 y7 y8 y9 y10 y11 y12
      unfold laws_FnCirclesOfPackings.j3
      exact mo_
    · intro y0 y1 y2 y3 y4 y5 y6 y7 y8 y9 y10 y11 y12 y13
      unfold laws_FnCirclesOfPackings.l1
      exact mo_
theorem laws_FnCirclesOfPackings.mono:∀a0 a1 k,LeO (laws_FnCirclesOfPackings.f k a0 a1) (laws_FnCirclesOfPackings.f (k+1) a0 a1):=by
  intro a0 a1 k
  obtain⟨ih0,ih1,ih2,ih3,ih4,ih5,ih6,ih7,ih8,ih9,ih10⟩:=laws_FnCirclesOfPackings.mono_l k
  unfold laws_FnCirclesOfPackings.f
  exact mo_
def laws_FnCirclesOfPackings.T35:Bool × List (List Nat × List Nat):=(true,[([],[]),([],[]),([1],[1]),([2],[2]),([0,3],[0,3]),([4],[4]),([],[]),([],[]),([7],[7]),([8],[8]),([6,9],[6,9]),([10],[10]),([5,11],[5,11]),([12],[12]),([13],[13]),([13],[13]),([14,12,0,1,2,3,4,5,6,7,8,9,10,11,12,13,14],[14]),([15,16,0,1,2,3,4,5,6,7,8,9,10,11,12,13,14,15,16],[15])])
def laws_FnCirclesOfPackings.B35:List Nat:=[0,0,2,6,15,31,0,0,128,384,960,1984,4095,8191,16383,16383,32767,131071]
theorem laws_FnCirclesOfPackings.tab35:rtab .any (opsOf Tryz.f3 35)=laws_FnCirclesOfPackings.T35:=by kernel_rfl
theorem laws_FnCirclesOfPackings.bits35:waitsOk laws_FnCirclesOfPackings.T35.2 laws_FnCirclesOfPackings.B35=true:=by kernel_rfl
def laws_FnCirclesOfPackings.T36:Bool × List (List Nat × List Nat):=(true,[([],[]),([0],[0]),([1],[1]),([2],[2]),([3,2],[2,3]),([2,4],[2,4]),([5,2],[5]),([6],[6]),([7,6],[6,7]),([8,6],[6,8]),([6],[6]),([10,6],[6,10]),([11,6],[6,11]),([9,12,6],[6,9,12]),([6,13],[6,13]),([14,6],[14]),([15],[15]),([16,15],[15,16]),([17,15,15],[15,17]),([18],[18]),([18],[18]),([20,18],[18,20]),([19,21,18],[18,19,21]),([22,18],[18,22]),([18],[18]),([23,24,18,18],[18,23,24]),([25,18],[18,25]),([18,26,15],[15,18,26]),([15,27],[15,27])])
def laws_FnCirclesOfPackings.B36:List Nat:=[0,1,3,7,15,31,63,127,255,511,127,1151,3199,8191,16383,32767,65535,131071,262143,524287,524287,1572863,4194303,8388607,524287,33554431,67108863,134217727,268435455]
theorem laws_FnCirclesOfPackings.tab36:rtab .any (opsOf Tryz.f3 36)=laws_FnCirclesOfPackings.T36:=by kernel_rfl
theorem laws_FnCirclesOfPackings.bits36:waitsOk laws_FnCirclesOfPackings.T36.2 laws_FnCirclesOfPackings.B36=true:=by kernel_rfl
theorem ceq_ {α:Type} {d:Kd α} {w:World} {A:Option Addr} {y z:List α} (h:y=z) (k:Kd.C d w A z.length z):Kd.C d w A y.length y:=by
  subst h
  exact k
def laws_FnCirclesOfPackings.Pure:Prop:=∀(l0:List Int) (l1:List Int),l0.length≤maxLen→l0.length*1≤140737488351232→(∀x∈l0,(Lit.int .u8 x).wf=true)→l1.length≤maxLen→l1.length*1≤140737488351232→(∀x∈l1,(Lit.int .u8 x).wf=true)→∃k,laws_FnCirclesOfPackings.f k l0 l1=some true
end
end Go.Proofs.YtmpofeilljmmiaaGreatDoor.P
